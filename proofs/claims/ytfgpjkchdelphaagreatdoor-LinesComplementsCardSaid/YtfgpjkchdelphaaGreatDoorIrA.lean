import Derived.Test.YtfgpjkchdelphaaGreatDoorEvC
import Derived.Test.YtfgpjkchdelphaaGreatDoorProg
import Derived.KernelRfl
set_option linter.unusedSimpArgs false
set_option linter.unusedVariables false
namespace Go.Ev
open Go Go.Proofs
set_option maxRecDepth 100000
noncomputable section
abbrev zU:List AV:=[(.int .u8 0),(.int .u8 0),(.int .u8 0),(.int .u8 0),(.int .u8 0),(.int .u8 0),(.int .u8 0),(.int .u8 0),(.int .u8 0),(.int .u8 0),(.int .u8 0),(.int .u8 0),(.int .u8 0),(.int .u8 0),(.int .u8 0),(.int .u8 0),(.int .u8 0),(.int .u8 0),(.int .u8 0),(.int .u8 0),(.int .u8 0),(.int .u8 0),(.int .u8 0),(.int .u8 0),(.int .u8 0),(.int .u8 0),(.int .u8 0),(.int .u8 0),(.int .u8 0),(.int .u8 0),(.int .u8 0),(.int .u8 0),(.int .u8 0),(.int .u8 0),(.int .u8 0),(.int .u8 0),(.int .u8 0),(.int .u8 0),(.int .u8 0),(.int .u8 0),(.int .u8 0),(.int .u8 0),(.int .u8 0),(.int .u8 0),(.int .u8 0),(.int .u8 0),(.int .u8 0),(.int .u8 0),(.int .u8 0),(.int .u8 0),(.int .u8 0),(.int .u8 0),(.int .u8 0),(.int .u8 0),(.int .u8 0),(.int .u8 0),(.int .u8 0),(.int .u8 0),(.int .u8 0),(.int .u8 0),(.int .u8 0),(.int .u8 0),(.int .u8 0),(.int .u8 0),(.int .u8 0),(.int .u8 0),(.int .u8 0),(.int .u8 0),(.int .u8 0),(.int .u8 0),(.int .u8 0),(.int .u8 0),(.int .u8 0),(.int .u8 0),(.int .u8 0),(.int .u8 0),(.int .u8 0),(.int .u8 0),(.int .u8 0),(.int .u8 0),(.int .u8 0),(.int .u8 0),(.int .u8 0),(.int .u8 0),(.int .u8 0),(.int .u8 0),(.int .u8 0),(.int .u8 0),(.int .u8 0),(.int .u8 0),(.int .u8 0),(.int .u8 0),(.int .u8 0),(.int .u8 0),(.int .u8 0),(.int .u8 0),(.int .u8 0),(.int .u8 0),(.int .u8 0),(.int .u8 0),(.int .u8 0),(.int .u8 0),(.int .u8 0),(.int .u8 0),(.int .u8 0),(.int .u8 0),(.int .u8 0),(.int .u8 0),(.int .u8 0),(.int .u8 0),(.int .u8 0),(.int .u8 0),(.int .u8 0),(.int .u8 0),(.int .u8 0),(.int .u8 0),(.int .u8 0),(.int .u8 0),(.int .u8 0),(.int .u8 0),(.int .u8 0),(.int .u8 0),(.int .u8 0),(.int .u8 0),(.int .u8 0),(.int .u8 0),(.int .u8 0),(.int .u8 0)]
abbrev iSm (n:Nat):RO:=.s (.mv (.t (.of n)))
abbrev iQm (n m:Nat):RO:=.q (.of n) (.mv (.s m))
abbrev iQo (n:Nat) (o:PO):RO:=.q (.of n) o
abbrev iPf (n:Nat) (o:PO):RO:=.p .push (some (.s n,false)) o
abbrev iPt (n:Nat) (o:PO):RO:=.p .push (some (.s n,true)) o
abbrev iCa (n:Nat) (l:List Arg):RO:=.w .push none (.call (.c (.fn n (.of n) [])) l)
abbrev iWl (n:Nat) (o:WO):RO:=.w (.loc (.of n)) none o
abbrev iSr (l:List RO) (c:IR):IR:=.seq (.reg l) c
def fr1 (x0:AV):T AV:=(.n .e x0 .e)
def fr2 (x0 x1:AV):T AV:=(.n (.n .e x1 .e) x0 .e)
def fr3 (x0 x1 x2:AV):T AV:=(.n (.n .e x1 .e) x0 (.n .e x2 .e))
def fr4 (x0 x1 x2 x3:AV):T AV:=(.n (.n (.n .e x3 .e) x1 .e) x0 (.n .e x2 .e))
def fr5 (x0 x1 x2 x3 x4:AV):T AV:=(.n (.n (.n .e x3 .e) x1 .e) x0 (.n (.n .e x4 .e) x2 .e))
def fr6 (x0 x1 x2 x3 x4 x5:AV):T AV:=(.n (.n (.n .e x3 .e) x1 (.n .e x5 .e)) x0 (.n (.n .e x4 .e) x2 .e))
def fr7 (x0 x1 x2 x3 x4 x5 x6:AV):T AV:=(.n (.n (.n .e x3 .e) x1 (.n .e x5 .e)) x0 (.n (.n .e x4 .e) x2 (.n .e x6 .e)))
def fr8 (x0 x1 x2 x3 x4 x5 x6 x7:AV):T AV:=(.n (.n (.n (.n .e x7 .e) x3 .e) x1 (.n .e x5 .e)) x0 (.n (.n .e x4 .e) x2 (.n .e x6 .e)))
def fr9 (x0 x1 x2 x3 x4 x5 x6 x7 x8:AV):T AV:=(.n (.n (.n (.n .e x7 .e) x3 .e) x1 (.n .e x5 .e)) x0 (.n (.n (.n .e x8 .e) x4 .e) x2 (.n .e x6 .e)))
def fr10 (x0 x1 x2 x3 x4 x5 x6 x7 x8 x9:AV):T AV:=(.n (.n (.n (.n .e x7 .e) x3 .e) x1 (.n (.n .e x9 .e) x5 .e)) x0 (.n (.n (.n .e x8 .e) x4 .e) x2 (.n .e x6 .e)))
def fr11 (x0 x1 x2 x3 x4 x5 x6 x7 x8 x9 x10:AV):T AV:=(.n (.n (.n (.n .e x7 .e) x3 .e) x1 (.n (.n .e x9 .e) x5 .e)) x0 (.n (.n (.n .e x8 .e) x4 .e) x2 (.n (.n .e x10 .e) x6 .e)))
def fr12 (x0 x1 x2 x3 x4 x5 x6 x7 x8 x9 x10 x11:AV):T AV:=(.n (.n (.n (.n .e x7 .e) x3 (.n .e x11 .e)) x1 (.n (.n .e x9 .e) x5 .e)) x0 (.n (.n (.n .e x8 .e) x4 .e) x2 (.n (.n .e x10 .e) x6 .e)))
def fr13 (x0 x1 x2 x3 x4 x5 x6 x7 x8 x9 x10 x11 x12:AV):T AV:=(.n (.n (.n (.n .e x7 .e) x3 (.n .e x11 .e)) x1 (.n (.n .e x9 .e) x5 .e)) x0 (.n (.n (.n .e x8 .e) x4 (.n .e x12 .e)) x2 (.n (.n .e x10 .e) x6 .e)))
def fr14 (x0 x1 x2 x3 x4 x5 x6 x7 x8 x9 x10 x11 x12 x13:AV):T AV:=(.n (.n (.n (.n .e x7 .e) x3 (.n .e x11 .e)) x1 (.n (.n .e x9 .e) x5 (.n .e x13 .e))) x0 (.n (.n (.n .e x8 .e) x4 (.n .e x12 .e)) x2 (.n (.n .e x10 .e) x6 .e)))
def fr15 (x0 x1 x2 x3 x4 x5 x6 x7 x8 x9 x10 x11 x12 x13 x14:AV):T AV:=(.n (.n (.n (.n .e x7 .e) x3 (.n .e x11 .e)) x1 (.n (.n .e x9 .e) x5 (.n .e x13 .e))) x0 (.n (.n (.n .e x8 .e) x4 (.n .e x12 .e)) x2 (.n (.n .e x10 .e) x6 (.n .e x14 .e))))
def fr18 (x0 x1 x2 x3 x4 x5 x6 x7 x8 x9 x10 x11 x12 x13 x14 x15 x16 x17:AV):T AV:=(.n (.n (.n (.n (.n .e x15 .e) x7 .e) x3 (.n .e x11 .e)) x1 (.n (.n (.n .e x17 .e) x9 .e) x5 (.n .e x13 .e))) x0 (.n (.n (.n (.n .e x16 .e) x8 .e) x4 (.n .e x12 .e)) x2 (.n (.n .e x10 .e) x6 (.n .e x14 .e))))
def fr19 (x0 x1 x2 x3 x4 x5 x6 x7 x8 x9 x10 x11 x12 x13 x14 x15 x16 x17 x18:AV):T AV:=(.n (.n (.n (.n (.n .e x15 .e) x7 .e) x3 (.n .e x11 .e)) x1 (.n (.n (.n .e x17 .e) x9 .e) x5 (.n .e x13 .e))) x0 (.n (.n (.n (.n .e x16 .e) x8 .e) x4 (.n .e x12 .e)) x2 (.n (.n (.n .e x18 .e) x10 .e) x6 (.n .e x14 .e))))
def fr20 (x0 x1 x2 x3 x4 x5 x6 x7 x8 x9 x10 x11 x12 x13 x14 x15 x16 x17 x18 x19:AV):T AV:=(.n (.n (.n (.n (.n .e x15 .e) x7 .e) x3 (.n (.n .e x19 .e) x11 .e)) x1 (.n (.n (.n .e x17 .e) x9 .e) x5 (.n .e x13 .e))) x0 (.n (.n (.n (.n .e x16 .e) x8 .e) x4 (.n .e x12 .e)) x2 (.n (.n (.n .e x18 .e) x10 .e) x6 (.n .e x14 .e))))
def fr22 (x0 x1 x2 x3 x4 x5 x6 x7 x8 x9 x10 x11 x12 x13 x14 x15 x16 x17 x18 x19 x20 x21:AV):T AV:=(.n (.n (.n (.n (.n .e x15 .e) x7 .e) x3 (.n (.n .e x19 .e) x11 .e)) x1 (.n (.n (.n .e x17 .e) x9 .e) x5 (.n (.n .e x21 .e) x13 .e))) x0 (.n (.n (.n (.n .e x16 .e) x8 .e) x4 (.n (.n .e x20 .e) x12 .e)) x2 (.n (.n (.n .e x18 .e) x10 .e) x6 (.n .e x14 .e))))
def fr23 (x0 x1 x2 x3 x4 x5 x6 x7 x8 x9 x10 x11 x12 x13 x14 x15 x16 x17 x18 x19 x20 x21 x22:AV):T AV:=(.n (.n (.n (.n (.n .e x15 .e) x7 .e) x3 (.n (.n .e x19 .e) x11 .e)) x1 (.n (.n (.n .e x17 .e) x9 .e) x5 (.n (.n .e x21 .e) x13 .e))) x0 (.n (.n (.n (.n .e x16 .e) x8 .e) x4 (.n (.n .e x20 .e) x12 .e)) x2 (.n (.n (.n .e x18 .e) x10 .e) x6 (.n (.n .e x22 .e) x14 .e))))
def fr27 (x0 x1 x2 x3 x4 x5 x6 x7 x8 x9 x10 x11 x12 x13 x14 x15 x16 x17 x18 x19 x20 x21 x22 x23 x24 x25 x26:AV):T AV:=(.n (.n (.n (.n (.n .e x15 .e) x7 (.n .e x23 .e)) x3 (.n (.n .e x19 .e) x11 .e)) x1 (.n (.n (.n .e x17 .e) x9 (.n .e x25 .e)) x5 (.n (.n .e x21 .e) x13 .e))) x0 (.n (.n (.n (.n .e x16 .e) x8 (.n .e x24 .e)) x4 (.n (.n .e x20 .e) x12 .e)) x2 (.n (.n (.n .e x18 .e) x10 (.n .e x26 .e)) x6 (.n (.n .e x22 .e) x14 .e))))
def fr28 (x0 x1 x2 x3 x4 x5 x6 x7 x8 x9 x10 x11 x12 x13 x14 x15 x16 x17 x18 x19 x20 x21 x22 x23 x24 x25 x26 x27:AV):T AV:=(.n (.n (.n (.n (.n .e x15 .e) x7 (.n .e x23 .e)) x3 (.n (.n .e x19 .e) x11 (.n .e x27 .e))) x1 (.n (.n (.n .e x17 .e) x9 (.n .e x25 .e)) x5 (.n (.n .e x21 .e) x13 .e))) x0 (.n (.n (.n (.n .e x16 .e) x8 (.n .e x24 .e)) x4 (.n (.n .e x20 .e) x12 .e)) x2 (.n (.n (.n .e x18 .e) x10 (.n .e x26 .e)) x6 (.n (.n .e x22 .e) x14 .e))))
def fr29 (x0 x1 x2 x3 x4 x5 x6 x7 x8 x9 x10 x11 x12 x13 x14 x15 x16 x17 x18 x19 x20 x21 x22 x23 x24 x25 x26 x27 x28:AV):T AV:=(.n (.n (.n (.n (.n .e x15 .e) x7 (.n .e x23 .e)) x3 (.n (.n .e x19 .e) x11 (.n .e x27 .e))) x1 (.n (.n (.n .e x17 .e) x9 (.n .e x25 .e)) x5 (.n (.n .e x21 .e) x13 .e))) x0 (.n (.n (.n (.n .e x16 .e) x8 (.n .e x24 .e)) x4 (.n (.n .e x20 .e) x12 (.n .e x28 .e))) x2 (.n (.n (.n .e x18 .e) x10 (.n .e x26 .e)) x6 (.n (.n .e x22 .e) x14 .e))))
def fr31 (x0 x1 x2 x3 x4 x5 x6 x7 x8 x9 x10 x11 x12 x13 x14 x15 x16 x17 x18 x19 x20 x21 x22 x23 x24 x25 x26 x27 x28 x29 x30:AV):T AV:=(.n (.n (.n (.n (.n .e x15 .e) x7 (.n .e x23 .e)) x3 (.n (.n .e x19 .e) x11 (.n .e x27 .e))) x1 (.n (.n (.n .e x17 .e) x9 (.n .e x25 .e)) x5 (.n (.n .e x21 .e) x13 (.n .e x29 .e)))) x0 (.n (.n (.n (.n .e x16 .e) x8 (.n .e x24 .e)) x4 (.n (.n .e x20 .e) x12 (.n .e x28 .e))) x2 (.n (.n (.n .e x18 .e) x10 (.n .e x26 .e)) x6 (.n (.n .e x22 .e) x14 (.n .e x30 .e)))))
def fr32 (x0 x1 x2 x3 x4 x5 x6 x7 x8 x9 x10 x11 x12 x13 x14 x15 x16 x17 x18 x19 x20 x21 x22 x23 x24 x25 x26 x27 x28 x29 x30 x31:AV):T AV:=(.n (.n (.n (.n (.n (.n .e x31 .e) x15 .e) x7 (.n .e x23 .e)) x3 (.n (.n .e x19 .e) x11 (.n .e x27 .e))) x1 (.n (.n (.n .e x17 .e) x9 (.n .e x25 .e)) x5 (.n (.n .e x21 .e) x13 (.n .e x29 .e)))) x0 (.n (.n (.n (.n .e x16 .e) x8 (.n .e x24 .e)) x4 (.n (.n .e x20 .e) x12 (.n .e x28 .e))) x2 (.n (.n (.n .e x18 .e) x10 (.n .e x26 .e)) x6 (.n (.n .e x22 .e) x14 (.n .e x30 .e)))))
def fr36 (x0 x1 x2 x3 x4 x5 x6 x7 x8 x9 x10 x11 x12 x13 x14 x15 x16 x17 x18 x19 x20 x21 x22 x23 x24 x25 x26 x27 x28 x29 x30 x31 x32 x33 x34 x35:AV):T AV:=(.n (.n (.n (.n (.n (.n .e x31 .e) x15 .e) x7 (.n .e x23 .e)) x3 (.n (.n (.n .e x35 .e) x19 .e) x11 (.n .e x27 .e))) x1 (.n (.n (.n (.n .e x33 .e) x17 .e) x9 (.n .e x25 .e)) x5 (.n (.n .e x21 .e) x13 (.n .e x29 .e)))) x0 (.n (.n (.n (.n (.n .e x32 .e) x16 .e) x8 (.n .e x24 .e)) x4 (.n (.n .e x20 .e) x12 (.n .e x28 .e))) x2 (.n (.n (.n (.n .e x34 .e) x18 .e) x10 (.n .e x26 .e)) x6 (.n (.n .e x22 .e) x14 (.n .e x30 .e)))))
abbrev in1:T AV:=fr1 .u
abbrev in2:T AV:=fr2 .u .u
abbrev in3:T AV:=fr3 .u .u .u
abbrev in4:T AV:=fr4 .u .u .u .u
abbrev in5:T AV:=fr5 .u .u .u .u .u
abbrev in6:T AV:=fr6 .u .u .u .u .u .u
abbrev in7:T AV:=fr7 .u .u .u .u .u .u .u
abbrev in8:T AV:=fr8 .u .u .u .u .u .u .u .u
abbrev in9:T AV:=fr9 .u .u .u .u .u .u .u .u .u
abbrev in10:T AV:=fr10 .u .u .u .u .u .u .u .u .u .u
abbrev in11:T AV:=fr11 .u .u .u .u .u .u .u .u .u .u .u
abbrev in12:T AV:=fr12 .u .u .u .u .u .u .u .u .u .u .u .u
abbrev in13:T AV:=fr13 .u .u .u .u .u .u .u .u .u .u .u .u .u
abbrev in14:T AV:=fr14 .u .u .u .u .u .u .u .u .u .u .u .u .u .u
abbrev in15:T AV:=fr15 .u .u .u .u .u .u .u .u .u .u .u .u .u .u .u
abbrev in18:T AV:=fr18 .u .u .u .u .u .u .u .u .u .u .u .u .u .u .u .u .u .u
abbrev in19:T AV:=fr19 .u .u .u .u .u .u .u .u .u .u .u .u .u .u .u .u .u .u .u
abbrev in20:T AV:=fr20 .u .u .u .u .u .u .u .u .u .u .u .u .u .u .u .u .u .u .u .u
abbrev in22:T AV:=fr22 .u .u .u .u .u .u .u .u .u .u .u .u .u .u .u .u .u .u .u .u .u .u
abbrev in23:T AV:=fr23 .u .u .u .u .u .u .u .u .u .u .u .u .u .u .u .u .u .u .u .u .u .u .u
abbrev in27:T AV:=fr27 .u .u .u .u .u .u .u .u .u .u .u .u .u .u .u .u .u .u .u .u .u .u .u .u .u .u .u
abbrev in28:T AV:=fr28 .u .u .u .u .u .u .u .u .u .u .u .u .u .u .u .u .u .u .u .u .u .u .u .u .u .u .u .u
abbrev in29:T AV:=fr29 .u .u .u .u .u .u .u .u .u .u .u .u .u .u .u .u .u .u .u .u .u .u .u .u .u .u .u .u .u
abbrev in31:T AV:=fr31 .u .u .u .u .u .u .u .u .u .u .u .u .u .u .u .u .u .u .u .u .u .u .u .u .u .u .u .u .u .u .u
abbrev in32:T AV:=fr32 .u .u .u .u .u .u .u .u .u .u .u .u .u .u .u .u .u .u .u .u .u .u .u .u .u .u .u .u .u .u .u .u
abbrev in36:T AV:=fr36 .u .u .u .u .u .u .u .u .u .u .u .u .u .u .u .u .u .u .u .u .u .u .u .u .u .u .u .u .u .u .u .u .u .u .u .u
abbrev aT0:Arg:=.t (.of 0)
abbrev aT1:Arg:=.t (.of 1)
abbrev aT2:Arg:=.t (.of 2)
abbrev aT3:Arg:=.t (.of 3)
abbrev aT4:Arg:=.t (.of 4)
abbrev aT5:Arg:=.t (.of 5)
abbrev aT6:Arg:=.t (.of 6)
abbrev aT7:Arg:=.t (.of 7)
abbrev aT8:Arg:=.t (.of 8)
abbrev aT9:Arg:=.t (.of 9)
abbrev nV:Arg:=.t (.of 10)
abbrev rU:Arg:=.t (.of 11)
abbrev nX:Arg:=.t (.of 12)
abbrev sO:Arg:=.t (.of 13)
abbrev oQ:Arg:=.t (.of 14)
abbrev aO:Arg:=.t (.of 15)
abbrev aT16:Arg:=.t (.of 16)
abbrev aW:Arg:=.t (.of 17)
abbrev oU:Arg:=.t (.of 18)
abbrev aT19:Arg:=.t (.of 19)
abbrev aT20:Arg:=.t (.of 20)
abbrev aT21:Arg:=.t (.of 21)
abbrev aT22:Arg:=.t (.of 22)
abbrev aT23:Arg:=.t (.of 23)
abbrev aT24:Arg:=.t (.of 24)
abbrev aT25:Arg:=.t (.of 25)
abbrev aT26:Arg:=.t (.of 26)
abbrev aT27:Arg:=.t (.of 27)
abbrev aT28:Arg:=.t (.of 28)
abbrev aT29:Arg:=.t (.of 29)
abbrev aT30:Arg:=.t (.of 30)
abbrev aT31:Arg:=.t (.of 31)
abbrev aT32:Arg:=.t (.of 32)
abbrev aT33:Arg:=.t (.of 33)
abbrev aT34:Arg:=.t (.of 34)
abbrev aT35:Arg:=.t (.of 35)
abbrev aS0:Arg:=.s 0
abbrev aS1:Arg:=.s 1
abbrev aS2:Arg:=.s 2
abbrev aS3:Arg:=.s 3
abbrev aS4:Arg:=.s 4
abbrev aS5:Arg:=.s 5
abbrev aS6:Arg:=.s 6
abbrev aS7:Arg:=.s 7
abbrev aS8:Arg:=.s 8
abbrev aS9:Arg:=.s 9
abbrev tJ:Arg:=.s 10
abbrev aS11:Arg:=.s 11
abbrev aS12:Arg:=.s 12
abbrev aS13:Arg:=.s 13
abbrev aS14:Arg:=.s 14
abbrev aS15:Arg:=.s 15
abbrev aS16:Arg:=.s 16
abbrev aS21:Arg:=.s 21
abbrev aS24:Arg:=.s 24
abbrev aC0:Arg:=.c (I 0)
abbrev aC1:Arg:=.c (I 1)
abbrev aC2:Arg:=.c (I 2)
abbrev aC3:Arg:=.c (I 3)
abbrev aC4:Arg:=.c (I 4)
abbrev aC5:Arg:=.c (I 5)
abbrev aC6:Arg:=.c (I 6)
abbrev aC7:Arg:=.c (I 7)
abbrev aC8:Arg:=.c (I 8)
abbrev aC9:Arg:=.c (I 9)
abbrev aC10:Arg:=.c (I 10)
abbrev aC11:Arg:=.c (I 11)
abbrev aC12:Arg:=.c (I 12)
abbrev aC13:Arg:=.c (I 13)
abbrev aC14:Arg:=.c (I 14)
abbrev aC15:Arg:=.c (I 15)
abbrev aC16:Arg:=.c (I 16)
abbrev aC18:Arg:=.c (I 18)
abbrev aC21:Arg:=.c (I 21)
abbrev aC26:Arg:=.c (I 26)
abbrev aC32:Arg:=.c (I 32)
abbrev aC64:Arg:=.c (I 64)
abbrev qbq:Arg:=.c (I 100)
abbrev zvz:Arg:=.c (I 128)
abbrev zp6:Arg:=.c (I 256)
abbrev qbr:Arg:=.c (I 600)
abbrev zym:Arg:=.c (I 1800)
abbrev ztu:Arg:=.c (I 78913)
abbrev zl2:Arg:=.c (I 1048576)
abbrev zhc:Arg:=.c (I 999999999)
abbrev F9.fr:=fr31
def F9.t0:IR:=.reg [iWl 2 (.box aT0),iQo 3 (.mv (.c (.bool false)))]
def F9.zgb (r:List RO):List RO:=iPf 2 (.not aS0)::iQo 21 (.pick aS3 (.c (.bool true)) aS0)::r
def F9.r1_3:List RO:=F9.zgb []
def F9.zga (r:List RO):List RO:=.s (.mv aS0)::iPf 0 (.mv aT1)::.w .push (some (aS1,false)) (.call (.c (.fn 46 (.of 46) [])) [aS0])::r
def F9.r1_2:List RO:=F9.zga F9.r1_3
def F9.aI (r:List RO):List RO:=.s (.not aS0)::.s (.mv aS0)::iPf 0 (.mv aT1)::iPf 1 (.len aS0)::iPf 2 (.zu 0 aT2)::iPf 3 (.load aS0)::iPf 4 (.bin .neq .int aS2 aS0)::.s (.pick aS5 (.c (.bool true)) aS0)::r
def F9.r1_1:List RO:=F9.aI F9.r1_2
def F9.aH (r:List RO):List RO:=.s (.zk 2 aT2)::iCa 35 [aS0,aC16,aC12]::r
def F9.eF:List RO:=F9.aH F9.r1_1
def F9.t1:IR:=.reg F9.eF
def F9.t2:IR:=.reg [iCa 17 [],iQm 3 0]
def F9.t6:IR:=.reg [iSm 1,iCa 47 [aS0],.s (.mv aS0),.s (.ext 0 aS0),.s (.ext 1 aS1),iQm 4 1,iQm 5 0]
def F9.zve (r:List RO):List RO:=iPf 2 (.not aS0)::iQo 22 (.pick aS3 (.c (.bool true)) aS0)::r
def F9.r4_2:List RO:=F9.zve []
def F9.zvd (r:List RO):List RO:=.s (.pick aS5 (.c (.bool true)) aS0)::.s (.mv aS0)::iPf 0 (.mv aT4)::.w .push (some (aS1,false)) (.call (.c (.fn 46 (.of 46) [])) [aS0])::r
def F9.r4_1:List RO:=F9.zvd F9.r4_2
def F9.zvc (r:List RO):List RO:=iSm 5::.s (.bin .neq .int aS0 aC0)::.s (.mv aS0)::iPf 0 (.mv aT4)::iPf 1 (.len aS0)::iPf 2 (.mv aT1)::iPf 3 (.len aS0)::iPf 4 (.bin .neq .int aS2 aS0)::r
def F9.r4_0:List RO:=F9.zvc F9.r4_1
def F9.t7:IR:=.reg F9.r4_0
def F9.t12:IR:=.reg [iSm 4,iCa 47 [aS0],.s (.mv aS0),.s (.ext 0 aS0),.s (.ext 1 aS1),iQm 6 1,iQm 7 0]
def F9.t13:IR:=.reg [.s (.zk 2 aT2),iSm 1,iCa 48 [aS1,aS0],.s (.mv aS0),.s (.ext 0 aS0),.s (.ext 1 aS1),iQm 8 1,iQm 9 0]
def F9.t14:IR:=.reg [.s (.zk 2 aT2),iSm 4,iCa 48 [aS1,aS0],.s (.mv aS0),.s (.ext 0 aS0),.s (.ext 1 aS1),iQm 10 1,iQm 11 0]
def F9.zvf (r:List RO):List RO:=iPf 5 (.bin .neq .int aS3 aS0)::iQo 23 (.pick aS6 (.c (.bool true)) aS0)::r
def F9.r9_4:List RO:=F9.zvf []
def F9.zfu (r:List RO):List RO:=iPf 5 (.bin .neq .int aS3 aS0)::.s (.pick aS6 (.c (.bool true)) aS0)::.s (.mv aS0)::iPf 0 (.mv nV)::iPf 1 (.len aS0)::iPf 2 (.zu 1 aT2)::iPf 3 (.load aS0)::iPf 4 (.len aS0)::r
def F9.r9_3:List RO:=F9.zfu F9.r9_4
def F9.zar (r:List RO):List RO:=iPf 3 (.not aS0)::.s (.pick aS4 (.c (.bool true)) aS0)::.s (.mv aS0)::iPf 0 (.mv aT8)::iPf 1 (.len aS0)::iPf 2 (.zu 1 aT2)::iPf 3 (.load aS0)::iPf 4 (.len aS0)::r
def F9.r9_2:List RO:=F9.zar F9.r9_3
def F9.zaq (r:List RO):List RO:=iPf 1 (.mv aT1)::.w .push (some (aS2,false)) (.call (.c (.fn 49 (.of 49) [])) [aS1,aS0])::r
def F9.r9_1:List RO:=F9.zaq F9.r9_2
def F9.zao (r:List RO):List RO:=iSm 7::iSm 9::.s (.bin .add .int aS1 aS0)::iSm 11::.s (.bin .add .int aS1 aS0)::.s (.bin .neq .int aS0 aC0)::.s (.mv aS0)::iPf 0 (.mv aT6)::r
def F9.r9_0:List RO:=F9.zao F9.r9_1
def F9.t15:IR:=.reg F9.r9_0
def F9.t20:IR:=.reg [iQo 12 (.mv (.c (.bool true)))]
def F9.t21:IR:=.reg [.s (.zu 1 aT2),iQo 24 (.load aS0),iQo 25 (.len aT24),iQo 26 (.mv aC0)]
def F9.t22:IR:=.reg [iQo 27 (.bin .lss .int aT26 aT25)]
def F9.t24:IR:=.reg [iSm 26,.s (.zx 1 aT24 aT26),.s (.load aS0),iQm 13 2,iQm 14 0]
def F9.zn2 (r:List RO):List RO:=.s (.bin .add .int aS4 aS0)::iSm 14::.s (.len aS0)::.s (.zu 0 aT2)::.s (.load aS0)::.s (.bin .add .int aS0 aC1)::.s (.bin .mul .int aS3 aS0)::iQo 28 (.bin .neq .int aS6 aS0)::r
def F9.zv0:List RO:=F9.zn2 []
def F9.zn1 (r:List RO):List RO:=iSm 8::iSm 13::.s (.zx 1 aS1 aS0)::.s (.load aS0)::iSm 10::iSm 13::.s (.zx 1 aS1 aS0)::.s (.load aS0)::r
def F9.zn0:List RO:=F9.zn1 F9.zv0
def F9.t25:IR:=.jd [] (F9.zn0.map fun o=>(o,0,[]))
def F9.za8 (r:List RO):List RO:=iPt 6 (.len aS0)::iPt 7 (.bin .eql .int aS5 aS0)::.s (.pick aS8 aS0 (.c (.bool false)))::iQm 12 0::r
def F9.zdz:List RO:=F9.za8 []
def F9.za7 (r:List RO):List RO:=iSm 12::.s (.mv aS0)::iPt 0 (.mv oQ)::iPt 1 (.len aS0)::iPt 2 (.zu 1 aT2)::iPt 3 (.load aS0)::iPt 4 (.zx 1 aS0 aC0)::iPt 5 (.load aS0)::r
def F9.za6:List RO:=F9.za7 F9.zdz
def F9.t30:IR:=.reg F9.za6
def F9.t34:IR:=.reg [.s (.bin .add .int aT26 aC1),iQm 26 0]
def F9.t37:IR:=.seq F9.t22 (.seq (.cond aT27 .skip (.exit 0)) (.seq (.block 1 (.seq F9.t24 (.seq (.seq F9.t25 (.cond aT28 (iSr [iQo 3 (.mv (.c (.bool false)))] .ret) .skip)) F9.t30))) F9.t34))
def F9.t38:IR:=.loop F9.t37
def F9.t41:IR:=.reg [.s (.zk 2 aT2),iSm 1,iCa 43 [aS1,aS0],.s (.mv aS0),.s (.ext 0 aS0),.s (.ext 1 aS1),iQm 15 1,iQm 16 0]
def F9.t42:IR:=.reg [.s (.zk 2 aT2),iSm 4,iCa 43 [aS1,aS0],.s (.mv aS0),.s (.ext 0 aS0),.s (.ext 1 aS1),iQm 17 1,iQm 18 0]
def F9.t43:IR:=.reg [.s (.zk 2 aT2),iCa 33 [aS0],.s (.mv aS0),.s (.ext 0 aS0),.s (.ext 1 aS1),iQm 19 1,iQm 20 0]
def F9.za5 (r:List RO):List RO:=iPt 1 (.mv aW)::iPt 2 (.bin .neq .bool aS1 aS0)::iPf 5 (.pick aS3 aS0 (.c (.bool false)))::iQo 29 (.pick aS6 (.c (.bool true)) aS0)::r
def F9.zd0:List RO:=F9.za5 []
def F9.za4 (r:List RO):List RO:=iSm 16::iSm 18::.s (.bin .add .int aS1 aS0)::.s (.bin .neq .int aS0 aC0)::.s (.mv aS0)::iPf 0 (.mv nX)::iPf 1 (.mv aS0)::iPt 0 (.mv aO)::r
def F9.za3:List RO:=F9.za4 F9.zd0
def F9.t44:IR:=.reg F9.za3
def F9.zn3 (r:List RO):List RO:=iQo 30 (.pick tJ aS0 (.c (.bool false)))::r
def F9.zkm:List RO:=F9.zn3 []
def F9.zbb (r:List RO):List RO:=iPt 2 (.bin .eql .int aS0 aC0)::iPt 3 (.mv aS0)::iPf 0 (.mv aT19)::iPf 1 (.mv aT8)::iPf 2 (.zx 1 aS0 aC0)::iPf 3 (.load aS0)::iPf 4 (.bin .neq .int aS3 aS0)::iPt 9 (.pick aS5 (.c (.bool true)) aS0)::r
def F9.zco:List RO:=F9.zbb F9.zkm
def F9.zba (r:List RO):List RO:=iSm 15::.s (.mv aS0)::iPt 0 (.mv aT20)::iPt 1 (.bin .eql .int aS0 aC0)::.s (.pick aS2 aS0 (.c (.bool false)))::.s (.mv aS0)::iPt 0 (.mv aT8)::iPt 1 (.len aS0)::r
def F9.za9:List RO:=F9.zba F9.zco
def F9.t49:IR:=.reg F9.za9
def F9.zbe (r:List RO):List RO:=.s (.pick aS1 aS0 (.c (.bool false)))::iQm 3 0::r
def F9.aP:List RO:=F9.zbe []
def F9.zbd (r:List RO):List RO:=iPf 1 (.bin .eql .int aS0 aC21)::iPf 2 (.mv aS0)::iPt 0 (.mv aO)::iPt 1 (.not aS0)::iPf 5 (.pick aS2 aS0 (.c (.bool false)))::.s (.pick aS6 (.c (.bool true)) aS0)::.s (.mv aS0)::.w .push (some (aS0,true)) (.call (.c (.fn 17 (.of 17) [])) [])::r
def F9.eu:List RO:=F9.zbd F9.aP
def F9.zbc (r:List RO):List RO:=iSm 20::.s (.bin .eql .int aS0 aC0)::.s (.mv aS0)::iPf 0 (.mv aT20)::iPf 1 (.bin .eql .int aS0 aC7)::.s (.pick aS2 (.c (.bool true)) aS0)::.s (.mv aS0)::iPf 0 (.mv aT20)::r
def F9.zac:List RO:=F9.zbc F9.eu
def F9.t54:IR:=.reg F9.zac
def F9.t70:IR:=.seq F9.t0 (.seq (.seq F9.t1 (.cond aT21 (.seq F9.t2 .ret) .skip)) (.seq F9.t6 (.seq (.seq F9.t7 (.cond aT22 (iSr [iQo 3 (.mv (.c (.bool false)))] .ret) .skip)) (.seq F9.t12 (.seq F9.t13 (.seq F9.t14 (.seq (.seq F9.t15 (.cond aT23 (iSr [iQo 3 (.mv (.c (.bool false)))] .ret) .skip)) (.seq F9.t20 (.seq (.seq F9.t21 (.block 0 F9.t38)) (.seq F9.t41 (.seq F9.t42 (.seq F9.t43 (.seq (.seq F9.t44 (.cond aT29 (iSr [iQo 3 (.mv (.c (.bool false)))] .ret) .skip)) (.seq (.seq F9.t49 (.cond aT30 (iSr [iQo 3 (.mv (.c (.bool false)))] .ret) .skip)) (.seq F9.t54 .ret)))))))))))))))
def F9.b0:IR:=F9.t70
def F9.res:List RV:=[.t (.of 3)]
def F9:Fn:={ params:=[(.of 0),(.of 1)],res:=F9.res,body:=F9.b0,init:=in31 }
theorem F9.ok:fnA Tryz.prog Tryz.f9 [0,1,2,4,5,6,7,8,9,10,11,12,13,14,15,16,17,18,19,20,21,36,56,101,103,104,105,106,125,166,183]=some F9:=by kernel_rfl
abbrev F16.fr:=fr9
def F16.b4:IR:=(.seq (iSr [iSm 5,.s (.zu 1 aT3),.s (.load aS0),.s (.len aS0),iQo 7 (.bin .lss .int aS3 aS0)] (.cond aT7 .skip (.exit 0))) (.seq (.block 1 (iSr [.s (.zu 1 aT3),.s (.load aS0),iSm 5,.s (.zx 1 aS1 aS0),.s (.load aS0),.s (.len aS0),iSm 1,iQo 8 (.bin .gtr .int aS1 aS0)] (.cond aT8 (iSr [iQo 4 (.mv (.c (.bool false)))] .ret) .skip))) (.reg [iSm 5,.s (.bin .add .int aS0 aC1),iQm 5 0])))
def F16.b3:IR:=(.loop F16.b4)
def F16.g2 (X3:IR):IR:=(.block 0 X3)
def F16.b2:IR:=F16.g2 F16.b3
def F16.b9:IR:=(iSr [iQo 4 (.mv (.c (.bool true)))] .ret)
def F16.b0:IR:=(iSr [iWl 3 (.box aT0),iQo 4 (.mv (.c (.bool false)))] (.seq (iSr [.s (.zu 1 aT3),.s (.load aS0),.s (.len aS0),iSm 2,iQo 6 (.bin .gtr .int aS1 aS0)] (.cond aT6 (iSr [iQo 4 (.mv (.c (.bool false)))] .ret) .skip)) (.seq (iSr [iQo 5 (.mv aC0)] F16.b2) F16.b9)))
def F16.res:List RV:=[.t (.of 4)]
def F16:Fn:={ params:=[(.of 0),(.of 1),(.of 2)],res:=F16.res,body:=F16.b0,init:=in9 }
theorem F16.ok:fnA Tryz.prog Tryz.f16 [0,1,2,3,6,7,12,17,27]=some F16:=by kernel_rfl
abbrev F17.fr:=fr29
def F17.b0:IR:=(iSr [iQo 0 (.mv (.c (.bool false)))] (iSr [.w .push none (.call (.c (.fn 65 (.of 65) [])) [(.c (.str [109,97,103,105,99])),aC3]),.s (.mv aS0),.s (.ext 0 aS0),.s (.ext 1 aS1),iWl 1 (.alloc [(I 0),.zf]),.w .none none (.store 2 aT1 aS1),iQm 2 0] (.seq (.jd [] [(.s (.zk 2 aT1),1,[]),(iCa 85 [],0,[]),(iCa 48 [aS1,aS0],0,[]),(.s (.mv aS0),0,[]),(.s (.ext 0 aS0),0,[]),(.s (.ext 1 aS1),0,[]),(iQm 3 1,0,[]),(iQm 4 0,0,[])]) (.seq (.jd [] [(.s (.zk 2 aT1),1,[]),(iCa 85 [],0,[]),(iCa 43 [aS1,aS0],0,[]),(.s (.mv aS0),0,[]),(.s (.ext 0 aS0),0,[]),(.s (.ext 1 aS1),0,[]),(iQm 5 1,0,[]),(iQm 6 0,0,[])]) (iSr [.s (.zk 2 aT1),iCa 23 [aS0],.s (.mv aS0),.s (.ext 0 aS0),.s (.ext 1 aS1),iQm 7 1,iQm 8 0] (.seq (.jd [] [(.s (.zk 2 aT1),1,[]),(iCa 85 [],0,[]),(iCa 24 [aS1,aS0],0,[]),(.s (.mv aS0),0,[]),(.s (.ext 0 aS0),0,[]),(.s (.ext 1 aS1),0,[]),(iQm 9 1,0,[]),(iQm 10 0,0,[])]) (iSr [.s (.zk 2 aT1),iCa 33 [aS0],.s (.mv aS0),.s (.ext 0 aS0),.s (.ext 1 aS1),iQm 11 1,iQm 12 0] (iSr [.w .push none (.call (.c (.fn 65 (.of 65) [])) [(.c (.str [115,101,109,105,109,97,103,105,99])),aC3]),.s (.mv aS0),.s (.ext 0 aS0),.s (.ext 1 aS1),iWl 13 (.alloc [(I 0),.zf]),.w .none none (.store 2 sO aS1),iQm 14 0] (iSr [.s (.zk 2 sO),iCa 31 [aS0],.s (.mv aS0),.s (.ext 0 aS0),.s (.ext 1 aS1),iQm 15 1,iQm 16 0] (iSr [iCa 85 [],.s (.build [(I 0),(I 0),.zf] [(0,1,aC3),(1,1,aC3),(2,1,aS0)]),iCa 51 [aS0],.s (.mv aS0),.s (.ext 0 aS0),.s (.ext 1 aS1),iQm 17 1,iQm 18 0] (iSr [iCa 85 [],iCa 47 [aS0],.s (.mv aS0),.s (.ext 0 aS0),.s (.ext 1 aS1),iQm 19 1,iQm 20 0] (.seq (iSr [iSm 2,iSm 4,.s (.bin .add .int aS1 aS0),iSm 6,.s (.bin .add .int aS1 aS0),iSm 8,.s (.bin .add .int aS1 aS0),iSm 10,.s (.bin .add .int aS1 aS0),iSm 12,.s (.bin .add .int aS1 aS0),iSm 14,.s (.bin .add .int aS1 aS0),iSm 16,.s (.bin .add .int aS1 aS0),iSm 18,.s (.bin .add .int aS1 aS0),iSm 20,.s (.bin .add .int aS1 aS0),.s (.bin .neq .int aS0 aC0),.s (.mv aS0),iPf 0 (.zu 1 aT1),iPf 1 (.load aS0),iPf 2 (.len aS0),iPf 3 (.bin .neq .int aS0 aC8),.s (.pick aS4 (.c (.bool true)) aS0),.s (.mv aS0),iPf 0 (.zu 1 aT1),iPf 1 (.load aS0),iPf 2 (.zx 1 aS0 aC7),iPf 3 (.load aS0),.w .push (some (aS4,false)) (.yu 1 3 [(I 0)] [(0,1,aC2),(1,1,aC4),(2,1,aC6)]),.w .push (some (aS5,false)) (.call (.c (.fn 49 (.of 49) [])) [aS1,aS0]),iPf 6 (.not aS0),.s (.pick aS7 (.c (.bool true)) aS0),.s (.mv aS0),iPf 0 (.mv aT3),.w .push (some (aS1,false)) (.yu 1 8 [(I 0)] [(0,1,aC15),(1,1,aC15),(2,1,aC15),(3,1,aC15),(4,1,aC15),(5,1,aC15),(6,1,aC15),(7,1,aC15)]),.w .push (some (aS2,false)) (.call (.c (.fn 49 (.of 49) [])) [aS1,aS0]),iPf 3 (.not aS0),.s (.pick aS4 (.c (.bool true)) aS0),.s (.mv aS0),iPf 0 (.mv aT5),iPf 1 (.not aS0),.s (.pick aS2 (.c (.bool true)) aS0),.s (.mv aS0),iPf 0 (.mv rU),iPf 1 (.bin .neq .int aS0 aC15),iQo 27 (.pick aS2 (.c (.bool true)) aS0)] (.cond aT27 (iSr [iQo 0 (.mv (.c (.bool false)))] .ret) .skip)) (.seq (iSr [iSm 7,.s (.len aS0),.s (.bin .neq .int aS0 aC3),.s (.mv aS0),iPf 0 (.mv aT7),iPf 1 (.zx 1 aS0 aC0),iPf 2 (.load aS0),.w .push (some (aS3,false)) (.yu 1 9 [(.str [])] [(0,1,(.c (.str [49]))),(1,1,(.c (.str [48]))),(2,1,(.c (.str [48]))),(3,1,(.c (.str [45,50,47,51]))),(4,1,(.c (.str [49,47,51]))),(5,1,(.c (.str [52,47,51]))),(6,1,(.c (.str [50,47,51]))),(7,1,(.c (.str [50,47,51]))),(8,1,(.c (.str [45,49,47,51])))]),.w .push (some (aS4,false)) (.call (.c (.fn 29 (.of 29) [])) [aS1,aS0]),iPf 5 (.not aS0),.s (.pick aS6 (.c (.bool true)) aS0),.s (.mv aS0),iPf 0 (.mv aT9),.w .push (some (aS1,false)) (.yu 1 3 [(.str [])] [(0,1,(.c (.str [50]))),(1,1,(.c (.str [55]))),(2,1,(.c (.str [54])))]),.w .push (some (aS2,false)) (.call (.c (.fn 29 (.of 29) [])) [aS1,aS0]),iPf 3 (.not aS0),.s (.pick aS4 (.c (.bool true)) aS0),.s (.mv aS0),iPf 0 (.mv aO),iPf 1 (.len aS0),iPf 2 (.bin .neq .int aS0 aC1),.s (.pick aS3 (.c (.bool true)) aS0),.s (.mv aS0),iPf 0 (.mv aO),iPf 1 (.zx 2 aS0 aC0),iPf 2 (.zu 0 aS0),iPf 3 (.load aS0),iPf 4 (.bin .neq .int aS0 aC5),.s (.pick aS5 (.c (.bool true)) aS0),.s (.mv aS0),iPf 0 (.mv aO),iPf 1 (.zx 2 aS0 aC0),iPf 2 (.zu 1 aS0),iPf 3 (.load aS0),.w .push (some (aS4,false)) (.yu 1 5 [(.str [])] [(0,1,(.c (.str [49]))),(1,1,(.c (.str [49]))),(2,1,(.c (.str [49]))),(3,1,(.c (.str [45,49]))),(4,1,(.c (.str [45,49])))]),.w .push (some (aS5,false)) (.call (.c (.fn 29 (.of 29) [])) [aS1,aS0]),iPf 6 (.not aS0),iQo 28 (.pick aS7 (.c (.bool true)) aS0)] (.cond aT28 (iSr [iQo 0 (.mv (.c (.bool false)))] .ret) .skip)) (iSr [iCa 69 [aC6],.s (.mv aS0),.s (.ext 0 aS0),.s (.ext 1 aS1),iWl 21 (.alloc [(I 0),.zf]),.w .none none (.store 2 aT21 aS1),iQm 22 0] (iSr [.s (.zk 2 aT21),iCa 33 [aS0],.s (.mv aS0),.s (.ext 0 aS0),.s (.ext 1 aS1),iQm 23 1,iQm 24 0] (iSr [.s (.build [(I 0),(I 0)] [(0,1,aC0),(1,1,aC1)]),.s (.build [(I 0),(I 0)] [(0,1,aC1),(1,1,aC2)]),.w .push none (.yu 2 2 [(I 0),(I 0)] [(0,2,aS1),(2,2,aS0)]),.s (.build [(I 0),.zf] [(0,1,aC3),(1,1,aS0)]),.w .push none (.yu 1 2 [(I 0)] [(0,1,aC1),(1,1,aC2)]),iCa 78 [aS1,aS0],.s (.mv aS0),.s (.ext 0 aS0),.s (.ext 1 aS1),iQm 25 1,iQm 26 0] (iSr [iSm 22,iSm 24,.s (.bin .add .int aS1 aS0),iSm 26,.s (.bin .add .int aS1 aS0),.s (.bin .eql .int aS0 aC0),.s (.mv aS0),iPt 0 (.mv aT23),iPt 1 (.bin .eql .int aS0 aC26),.s (.pick aS2 aS0 (.c (.bool false))),.s (.mv aS0),iPt 0 (.mv aT25),.w .push (some (aS1,true)) (.yu 1 3 [(I 0)] [(0,1,aC1),(1,1,aC3),(2,1,aC2)]),.w .push (some (aS2,true)) (.call (.c (.fn 49 (.of 49) [])) [aS1,aS0]),.s (.pick aS3 aS0 (.c (.bool false))),.s (.mv aS0),iPt 0 (.mv aW),.w .push (some (aS1,true)) (.yu 1 4 [(.str [])] [(0,1,(.c (.str [110,111,114,109,97,108]))),(1,1,(.c (.str [115,101,109,105,109,97,103,105,99]))),(2,1,(.c (.str [109,97,103,105,99]))),(3,1,(.c (.str [97,115,115,111,99,105,97,116,105,118,101])))]),.w .push (some (aS2,true)) (.call (.c (.fn 53 (.of 53) [])) [aS1,aS0]),.s (.pick aS3 aS0 (.c (.bool false))),.s (.mv aS0),iPt 0 (.mv aT19),.w .push (some (aS1,true)) (.yu 1 9 [(I 0)] [(0,1,aC8),(1,1,aC3),(2,1,aC4),(3,1,aC1),(4,1,aC5),(5,1,aC9),(6,1,aC6),(7,1,aC7),(8,1,aC2)]),.w .push (some (aS2,true)) (.call (.c (.fn 49 (.of 49) [])) [aS1,aS0]),.s (.pick aS3 aS0 (.c (.bool false))),iQm 0 0] .ret)))))))))))))))))
def F17.res:List RV:=[.t (.of 0)]
def F17:Fn:={ params:=[],res:=F17.res,body:=F17.b0,init:=in29 }
theorem F17.ok:fnA Tryz.prog Tryz.f17 [0,1,2,3,4,5,6,7,8,9,10,11,12,13,14,15,16,17,18,19,20,21,22,23,24,25,26,127,165]=some F17:=by kernel_rfl
abbrev F18.fr:=fr11
def F18.b4:IR:=(iSr [iQo 9 (.bin .lss .int aT8 aT7)] (.seq (.cond aT9 .skip (.exit 0)) (.seq (.block 1 (iSr [iSm 8,iQm 4 0] (iSr [.s (.zk 2 aT1),iSm 4,iCa 89 [aS1,aS0],iQm 5 0] (iSr [iSm 5,iQo 10 (.bin .neq .int aS0 aC0)] (.cond nV (iSr [iSm 5,iQm 2 0] .ret) .skip))))) (.reg [.s (.bin .add .int aT8 aC1),iQm 8 0]))))
def F18.b3:IR:=(.loop F18.b4)
def F18.g2 (X3:IR):IR:=(.block 0 X3)
def F18.b2:IR:=F18.g2 F18.b3
def F18.b9:IR:=(iSr [iQo 2 (.mv aC0)] .ret)
def F18.b0:IR:=(iSr [iWl 1 (.box aT0),iQo 2 (.mv aC0)] (.seq (.seq (.jd [] [(.s (.zu 0 aT1),0,[]),(.s (.load aS0),0,[]),(.s (.zu 1 aT1),2,[]),(.s (.load aS0),2,[]),(.s (.len aS0),2,[]),(.s (.bin .gtr .int aS0 zvz),2,[]),(.w .push none (.yu 1 1 [(I 0)] [(0,1,aS4)]),0,[]),(iCa 87 [aC1,zp6,aS0],0,[]),(iCa 88 [aS2,aC5],0,[]),(.w .push none (.yu 1 2 [(I 0)] [(0,1,aS1),(1,1,aS0)]),0,[]),(iCa 86 [aS0],0,[]),(iQm 3 0,0,[])]) (iSr [iSm 3,iQo 6 (.bin .neq .int aS0 aC0)] (.cond aT6 (iSr [iSm 3,iQm 2 0] .ret) .skip))) (.seq (iSr [.s (.zu 1 aT1),.s (.load aS0),iQo 7 (.len aS0),iQo 8 (.mv aC0)] F18.b2) F18.b9)))
def F18.res:List RV:=[.t (.of 2)]
def F18:Fn:={ params:=[(.of 0)],res:=F18.res,body:=F18.b0,init:=in11 }
theorem F18.ok:fnA Tryz.prog Tryz.f18 [0,1,2,3,4,5,18,22,23,24,30]=some F18:=by kernel_rfl
abbrev F19.fr:=fr14
def F19.b16:IR:=(.seq (.jd [] [(iSm 5,0,[]),(.s (.bin .gtr .int aS0 aC0),0,[]),(.s (.mv aS0),0,[]),(iPt 0 (.mv aT4),0,[]),(iPt 1 (.mv aT5),0,[]),(iPt 2 (.zx 1 aS1 aS0),0,[]),(iPt 3 (.load aS0),0,[]),(iPt 4 (.mv aT4),0,[]),(iPt 5 (.mv aT5),0,[]),(iPt 6 (.bin .sub .int aS0 aC1),0,[]),(iPt 7 (.zx 1 aS2 aS0),0,[]),(iPt 8 (.load aS0),0,[]),(iPt 9 (.bin .leq .int aS5 aS0),0,[]),(iQo 12 (.pick tJ aS0 (.c (.bool false))),0,[])]) (.cond nX (iSr [iQo 2 (.mv aC11)] .ret) .skip))
def F19.b17:IR:=(.reg [iSm 5,.s (.bin .add .int aS0 aC1),iQm 5 0])
def F19.b12:IR:=(.seq (iSr [iSm 5,iSm 4,.s (.len aS0),iQo 10 (.bin .lss .int aS2 aS0)] (.cond nV .skip (.exit 2))) (.seq (.block 3 (.seq (.seq (.jd [] [(iSm 4,0,[]),(iSm 5,0,[]),(.s (.zx 1 aS1 aS0),0,[]),(.s (.load aS0),0,[]),(.s (.bin .lss .int aS0 aC0),0,[]),(.s (.mv aS0),0,[]),(iPf 0 (.mv aT4),0,[]),(iPf 1 (.mv aT5),0,[]),(iPf 2 (.zx 1 aS1 aS0),0,[]),(iPf 3 (.load aS0),0,[]),(iPf 4 (.zu 0 aT1),0,[]),(iPf 5 (.load aS0),0,[]),(iPf 6 (.bin .geq .int aS2 aS0),0,[]),(iQo 11 (.pick aS7 (.c (.bool true)) aS0),0,[])]) (.cond rU (iSr [iQo 2 (.mv aC10)] .ret) .skip)) F19.b16)) F19.b17))
def F19.b11:IR:=(.loop F19.b12)
def F19.g10 (X11:IR):IR:=(.block 2 X11)
def F19.b10:IR:=F19.g10 F19.b11
def F19.b18:IR:=(iSr [.s (.zu 1 aT1),.s (.load aS0),iSm 3,.s (.slice 1 aS1 none (some aS0) none),iSm 4,iWl 13 (.call (.c (.fn 90 (.of 90) [])) [aS1,aS0])] (.cond sO (iSr [iQo 2 (.mv aC9)] .ret) .skip))
def F19.b19:IR:=(.reg [iSm 3,.s (.bin .add .int aS0 aC1),iQm 3 0])
def F19.b5:IR:=(.seq (iSr [iSm 3,.s (.zu 1 aT1),.s (.load aS0),.s (.len aS0),iQo 8 (.bin .lss .int aS3 aS0)] (.cond aT8 .skip (.exit 0))) (.seq (.block 1 (iSr [.s (.zu 1 aT1),.s (.load aS0),iSm 3,.s (.zx 1 aS1 aS0),.s (.load aS0),iQm 4 0] (.seq (iSr [iSm 4,.s (.len aS0),iQo 9 (.bin .eql .int aS0 aC0)] (.cond aT9 (iSr [iQo 2 (.mv aC12)] .ret) .skip)) (.seq (iSr [iQo 5 (.mv aC0)] F19.b10) F19.b18)))) F19.b19))
def F19.b4:IR:=(.loop F19.b5)
def F19.g3 (X4:IR):IR:=(.block 0 X4)
def F19.b3:IR:=F19.g3 F19.b4
def F19.b20:IR:=(iSr [iQo 2 (.mv aC0)] .ret)
def F19.b0:IR:=(iSr [iWl 1 (.box aT0),iQo 2 (.mv aC0)] (.seq (iSr [.s (.zu 0 aT1),.s (.load aS0),.s (.bin .lss .int aS0 aC1),.s (.mv aS0),iPf 0 (.zu 0 aT1),iPf 1 (.load aS0),iPf 2 (.bin .gtr .int aS0 zp6),iQo 6 (.pick aS3 (.c (.bool true)) aS0)] (.cond aT6 (iSr [iQo 2 (.mv aC3)] .ret) .skip)) (.seq (iSr [.s (.zu 1 aT1),.s (.load aS0),.s (.len aS0),iQo 7 (.bin .gtr .int aS0 zvz)] (.cond aT7 (iSr [iQo 2 (.mv aC5)] .ret) .skip)) (.seq (iSr [iQo 3 (.mv aC0)] F19.b3) F19.b20))))
def F19.res:List RV:=[.t (.of 2)]
def F19:Fn:={ params:=[(.of 0)],res:=F19.res,body:=F19.b0,init:=in14 }
theorem F19.ok:fnA Tryz.prog Tryz.f19 [0,1,2,3,4,5,13,17,22,32,36,52,66,72]=some F19:=by kernel_rfl
abbrev F20.fr:=fr14
def F20.b0:IR:=(iSr [iWl 1 (.box aT0),iQo 2 (.mv aC0)] (.seq (.seq (.jd [] [(.s (.zu 0 aT1),0,[]),(.s (.load aS0),0,[]),(.s (.zu 1 aT1),2,[]),(.s (.load aS0),2,[]),(.s (.len aS0),2,[]),(.s (.bin .gtr .int aS0 aC32),2,[]),(.w .push none (.yu 1 1 [(I 0)] [(0,1,aS4)]),0,[]),(iCa 87 [aC1,aC16,aS0],0,[]),(iCa 88 [aS2,aC5],0,[]),(.w .push none (.yu 1 2 [(I 0)] [(0,1,aS1),(1,1,aS0)]),0,[]),(iCa 86 [aS0],0,[]),(iQm 3 0,0,[])]) (iSr [iSm 3,iQo 8 (.bin .neq .int aS0 aC0)] (.cond aT8 (iSr [iSm 3,iQm 2 0] .ret) .skip))) (.seq (iSr [.s (.zu 1 aT1),iQo 9 (.load aS0),iQo 10 (.len aT9),iQo 11 (.mv aC0)] (.block 0 (.loop (iSr [iQo 12 (.bin .lss .int rU nV)] (.seq (.cond nX .skip (.exit 0)) (.seq (.block 1 (iSr [iSm 11,.s (.zx 2 aT9 rU),.s (.zk 2 aS0),iWl 5 (.alloc [(I 0),(I 0)]),iQm 4 2,.w .none none (.store 2 aT5 aS0)] (iSr [.s (.tN 1 2 aT5 aC0),.s (.load aS0),.s (.bin .geq .int aS0 aC0),.s (.mv aS0),iPt 0 (.tN 1 2 aT5 aC0),iPt 1 (.load aS0),iPt 2 (.zu 0 aT1),iPt 3 (.load aS0),iPt 4 (.bin .lss .int aS2 aS0),.s (.pick aS5 aS0 (.c (.bool false))),.s (.mv aS0),iPt 0 (.tN 1 2 aT5 aC1),iPt 1 (.load aS0),iPt 2 (.bin .geq .int aS0 aC0),.s (.pick aS3 aS0 (.c (.bool false))),.s (.mv aS0),iPt 0 (.tN 1 2 aT5 aC1),iPt 1 (.load aS0),iPt 2 (.zu 0 aT1),iPt 3 (.load aS0),iPt 4 (.bin .lss .int aS2 aS0),.s (.pick aS5 aS0 (.c (.bool false))),iQm 6 0] (.seq (.jd [] [(iSm 6,0,[]),(.s (.not aS0),0,[]),(.s (.tN 1 2 aT5 aC0),1,[]),(.s (.load aS0),1,[]),(.s (.tN 1 2 aT5 aC1),1,[]),(.s (.load aS0),1,[]),(.s (.bin .geq .int aS2 aS0),1,[]),(.s (.zu 1 aT1),2,[]),(.s (.load aS0),2,[]),(iSm 4,2,[]),(.s (.slice 2 aS1 none (some aS0) none),2,[]),(.s (.zk 2 aT5),2,[]),(iCa 88 [tJ,aC10],0,[]),(iCa 88 [aS6,aC11],0,[]),(iCa 91 [aS3,aS2],0,[]),(iCa 88 [aS0,aC9],0,[]),(.w .push none (.yu 1 3 [(I 0)] [(0,1,aS3),(1,1,aS2),(2,1,aS0)]),0,[]),(iCa 86 [aS0],0,[]),(iQm 7 0,0,[])]) (iSr [iSm 7,iQo 13 (.bin .neq .int aS0 aC0)] (.cond sO (iSr [iSm 7,iQm 2 0] .ret) .skip)))))) (.reg [.s (.bin .add .int rU aC1),iQm 11 0]))))))) (iSr [iQo 2 (.mv aC0)] .ret))))
def F20.res:List RV:=[.t (.of 2)]
def F20:Fn:={ params:=[(.of 0)],res:=F20.res,body:=F20.b0,init:=in14 }
theorem F20.ok:fnA Tryz.prog Tryz.f20 [0,1,2,3,4,5,6,7,20,23,24,25,26,71]=some F20:=by kernel_rfl
abbrev F23.fr:=fr6
def F23.b0:IR:=(iSr [iWl 1 (.box aT0),iQo 2 (.mv (.c .zf)),iQo 3 (.mv aC0)] (.seq (iSr [.s (.zk 2 aT1),iCa 18 [aS0],iQm 4 0] (iSr [iSm 4,iQo 5 (.bin .neq .int aS0 aC0)] (.cond aT5 (iSr [iSm 4,iQo 2 (.mv (.c .zf)),iQm 3 0] .ret) .skip))) (iSr [.s (.zk 2 aT1),iCa 93 [aS0],.s (.part 1 none aS0),iCa 92 [aS0],.s (.ext 0 aS0),.s (.ext 1 aS1),iQm 2 1,iQm 3 0] .ret)))
def F23.res:List RV:=[.t (.of 2),.t (.of 3)]
def F23:Fn:={ params:=[(.of 0)],res:=F23.res,body:=F23.b0,init:=in6 }
theorem F23.ok:fnA Tryz.prog Tryz.f23 [0,1,2,3,4,8]=some F23:=by kernel_rfl
abbrev F24.fr:=fr14
def F24.b0:IR:=(iSr [iWl 2 (.box aT0),iQo 3 (.mv (.c .zf)),iQo 4 (.mv aC0)] (.seq (iSr [.s (.zk 2 aT2),iSm 1,iCa 94 [aS1,aS0],iQm 5 0] (iSr [iSm 5,iQo 8 (.bin .neq .int aS0 aC0)] (.cond aT8 (iSr [iSm 5,iQo 3 (.mv (.c .zf)),iQm 4 0] .ret) .skip))) (.seq (iSr [.s (.zk 2 aT2),iSm 1,iCa 95 [aS1,aS0],iQo 9 (.bin .geq .int aS0 aC0)] (.cond aT9 (iSr [iQo 3 (.mv (.c .zf)),iQo 4 (.mv aC16)] .ret) .skip)) (iSr [iQo 6 (.mv (.c .zf))] (.seq (iSr [.s (.zk 2 aT2),iCa 93 [aS0],iQo 10 (.part 0 none aS0),iQo 11 (.len nV),iQo 12 (.mv aC0)] (.block 0 (.loop (iSr [iQo 13 (.bin .lss .int nX rU)] (.seq (.cond sO .skip (.exit 0)) (.seq (.block 1 (iSr [.s (.zx 1 nV nX),.s (.load aS0),iQm 7 0] (.reg [iSm 6,iSm 1,iSm 7,.s (.zx 1 aS1 aS0),.s (.load aS0),iCa 96 [aS0],iCa 97 [aS0],.w .push none (.yu 1 1 [(.str [])] [(0,1,aS0)]),.w .push none (.app 1 16 aS7 aS0),iQm 6 0]))) (.reg [.s (.bin .add .int nX aC1),iQm 12 0]))))))) (iSr [iSm 6,iQm 3 0,iQo 4 (.mv aC0)] .ret))))))
def F24.res:List RV:=[.t (.of 3),.t (.of 4)]
def F24:Fn:={ params:=[(.of 0),(.of 1)],res:=F24.res,body:=F24.b0,init:=in14 }
theorem F24.ok:fnA Tryz.prog Tryz.f24 [0,1,2,4,5,6,7,9,14,19,22,23,24,25]=some F24:=by kernel_rfl
abbrev F29.fr:=fr7
def F29.b0:IR:=(iSr [iQo 2 (.mv (.c (.bool false)))] (.seq (iSr [iSm 0,.s (.len aS0),iSm 1,.s (.len aS0),iQo 4 (.bin .neq .int aS2 aS0)] (.cond aT4 (iSr [iQo 2 (.mv (.c (.bool false)))] .ret) .skip)) (.seq (iSr [iQo 3 (.mv aC0)] (.block 0 (.loop (.seq (iSr [iSm 3,iSm 0,.s (.len aS0),iQo 5 (.bin .lss .int aS2 aS0)] (.cond aT5 .skip (.exit 0))) (.seq (.block 1 (.seq (.jd [] [(iSm 0,0,[]),(iSm 3,0,[]),(.s (.zx 1 aS1 aS0),0,[]),(.s (.load aS0),0,[]),(iSm 1,0,[]),(iSm 3,0,[]),(.s (.zx 1 aS1 aS0),0,[]),(.s (.load aS0),0,[]),(iQo 6 (.bin .neq .str aS4 aS0),0,[])]) (.cond aT6 (iSr [iQo 2 (.mv (.c (.bool false)))] .ret) .skip))) (.reg [iSm 3,.s (.bin .add .int aS0 aC1),iQm 3 0])))))) (iSr [iQo 2 (.mv (.c (.bool true)))] .ret))))
def F29.res:List RV:=[.t (.of 2)]
def F29:Fn:={ params:=[(.of 0),(.of 1)],res:=F29.res,body:=F29.b0,init:=in7 }
theorem F29.ok:fnA Tryz.prog Tryz.f29 [0,1,4,5,10,14,25]=some F29:=by kernel_rfl
abbrev F31.fr:=fr28
def F31.b0:IR:=(iSr [iWl 1 (.box aT0),iQo 2 (.mv (.c .zf)),iQo 3 (.mv aC0)] (.seq (iSr [.s (.zk 2 aT1),iCa 18 [aS0],iQm 4 0] (iSr [iSm 4,iQo 17 (.bin .neq .int aS0 aC0)] (.cond aW (iSr [iSm 4,iQo 2 (.mv (.c .zf)),iQm 3 0] .ret) .skip))) (iSr [iQo 5 (.mv (.c .zf))] (iSr [iQo 6 (.mv (.c .zf))] (.seq (iSr [.s (.zu 1 aT1),iQo 18 (.load aS0),iQo 19 (.len oU),iQo 20 (.mv aC0)] (.block 0 (.loop (iSr [iQo 21 (.bin .lss .int aT20 aT19)] (.seq (.cond aT21 .skip (.exit 0)) (.seq (.block 1 (iSr [iSm 20,.s (.zx 1 oU aT20),.s (.load aS0),iQm 7 2,iQm 8 0] (.seq (.jd [] [(.s (.zu 0 aT1),0,[]),(.s (.load aS0),0,[]),(iSm 8,0,[]),(.s (.zu 1 aT1),1,[]),(.s (.load aS0),1,[]),(.s (.len aS0),1,[]),(iCa 104 [aS4,aS3],0,[]),(iCa 105 [aS1],0,[]),(iQm 9 1,0,[]),(iQm 10 0,0,[])]) (.seq (iSr [iQo 22 (.mv aT5),iQo 23 (.len aT22),iQo 24 (.mv aC0)] (.block 2 (.loop (iSr [iQo 25 (.bin .lss .int aT24 aT23)] (.seq (.cond aT25 .skip (.exit 2)) (.seq (.block 3 (iSr [.s (.zx 3 aT22 aT24),.s (.zk 3 aS0),iWl 11 (.alloc [.zf,.zf,(I 0)]),.w .none none (.store 3 rU aS0)] (iSr [iSm 9,.s (.zu 2 rU),.s (.load aS0),.s (.zx 4 aS2 aS0),.s (.zk 4 aS0),iWl 12 (.alloc [(I 0),.zf,(I 0),.zf]),.w .none none (.store 4 nX aS0)] (iSr [iSm 9,.s (.zk 4 nX),.s (.zu 0 rU),.s (.load aS0),iCa 106 [aS3,aS2,aS0]] (.jd [] [(iSm 10,1,[]),(.s (.zk 4 nX),0,[]),(.s (.zu 1 rU),1,[]),(.s (.load aS0),1,[]),(iCa 107 [aS2],0,[]),(iCa 106 [aS4,aS0,aS1],0,[])]))))) (.reg [.s (.bin .add .int aT24 aC1),iQm 24 0]))))))) (iSr [iSm 9,.w .push none (.call (.c (.fn 108 (.of 108) [])) [aS0,(.c (.fn 109 (.of 109) []))]),iQm 13 0] (.seq (iSr [iSm 13,iQo 26 (.bin .lss .int aS0 aC0)] (.cond aT26 (iSr [iSm 10,iSm 7,iSm 7,.s (.slice 4 aS2 none (some aS1) (some aS0)),.w .push none (.yu 1 1 [.zf] [(0,1,aS0)]),iCa 92 [aS0],.s (.mv aS0),.s (.ext 0 aS0),.s (.ext 1 aS1),iQm 14 1,iQm 15 0] (.seq (iSr [iSm 15,iQo 27 (.bin .neq .int aS0 aC0)] (.cond aT27 (iSr [iSm 15,iQo 2 (.mv (.c .zf)),iQm 3 0] .ret) .skip)) (iSr [iSm 6,iSm 7,iSm 14,.s (.zx 1 aS0 aC0),.s (.load aS0),.s (.build [(I 0),.zf] [(0,1,aS3),(1,1,aS0)]),.w .push none (.yu 2 1 [(I 0),.zf] [(0,2,aS0)]),.w .push none (.appq 2 32 aS6 aS0),iQm 6 0] (.exit 1)))) .skip)) (iSr [iSm 10,iCa 96 [(.c (I (-1)))],iCa 111 [aS1,aS0]] (iSr [iSm 10,iSm 7,iCa 96 [aC1],.s (.zx 4 aS2 aS1),.w .none none (.store 4 aS0 aS1)] (iSr [iSm 9,iSm 13,.s (.zx 4 aS1 aS0),.s (.zk 4 aS0),iCa 112 [aS0],iWl 16 (.alloc [(I 0),.zf,(I 0),.zf]),.w .none none (.store 4 aT16 aS0)] (iSr [iSm 9,.s (.zk 4 aT16),iCa 111 [aS1,aS0]] (iSr [iSm 10,.s (.zk 4 aT16),iCa 111 [aS1,aS0]] (.reg [iSm 5,iSm 9,iSm 10,iSm 13,.s (.build [.zf,.zf,(I 0)] [(0,1,aS2),(1,1,aS1),(2,1,aS0)]),.w .push none (.yu 3 1 [.zf,.zf,(I 0)] [(0,3,aS0)]),.w .push none (.app 3 56 aS5 aS0),iQm 5 0])))))))))))) (.reg [.s (.bin .add .int aT20 aC1),iQm 20 0]))))))) (iSr [iSm 6,iQm 2 0,iQo 3 (.mv aC0)] .ret))))))
def F31.res:List RV:=[.t (.of 2),.t (.of 3)]
def F31:Fn:={ params:=[(.of 0)],res:=F31.res,body:=F31.b0,init:=in28 }
theorem F31.ok:fnA Tryz.prog Tryz.f31 [0,1,2,3,4,5,6,7,8,9,10,12,13,14,15,16,17,21,24,25,26,27,39,40,41,42,65,76]=some F31:=by kernel_rfl
abbrev F33.fr:=fr32
def F33.t0:IR:=.reg [iWl 1 (.box aT0),iQo 2 (.mv aC0),iQo 3 (.mv aC0)]
def F33.t1:IR:=.reg [.s (.zk 2 aT1),iCa 18 [aS0],iQm 4 0]
def F33.t2:IR:=.reg [iSm 4,iQo 15 (.bin .neq .int aS0 aC0)]
def F33.t8:IR:=.reg [.s (.zu 1 aT1),.s (.load aS0),.s (.len aS0),iQo 16 (.bin .eql .int aS0 aC0)]
def F33.t9:IR:=.reg [iQo 2 (.mv aC0),iQo 3 (.mv aC7)]
def F33.t13:IR:=.reg [iWl 5 (.alloc [(I 0),.zf,(I 0),.zf])]
def F33.t14:IR:=.reg [iQo 6 (.mv (.c (.bool false)))]
def F33.t15:IR:=.reg [iQo 7 (.mv (.c .zf))]
def F33.t16:IR:=.reg [.s (.zk 2 aT1),iCa 93 [aS0],iQo 17 (.part 1 none aS0),iQo 18 (.len aW),iQo 19 (.mv aC0)]
def F33.t17:IR:=.reg [iQo 20 (.bin .lss .int aT19 oU)]
def F33.t19:IR:=.reg [.s (.zx 1 aW aT19),.s (.load aS0),iQm 8 0]
def F33.t20:IR:=.reg [iCa 96 [aC0],iCa 96 [aC0],.s (.build [(I 0),.zf,(I 0),.zf,(I 0),.zf,(I 0),.zf] [(0,4,aS1),(4,4,aS0)]),iWl 9 (.alloc [(I 0),.zf,(I 0),.zf,(I 0),.zf,(I 0),.zf]),.w .none none (.store 8 aT9 aS0)]
def F33.t21:IR:=.reg [iQo 21 (.mv aT8),iQo 22 (.len aT21),iQo 23 (.mv aC0)]
def F33.t22:IR:=.reg [iQo 24 (.bin .lss .int aT23 aT22)]
def F33.t24:IR:=.reg [.s (.zx 4 aT21 aT23),.s (.zk 4 aS0),iWl 10 (.alloc [(I 0),.zf,(I 0),.zf]),.w .none none (.store 4 nV aS0)]
def F33.t25:IR:=.reg [.s (.zu 0 aT9),.s (.zk 4 aS0),.s (.zk 4 nV),iCa 114 [aS1,aS0],.s (.zu 0 aT9),.w .none none (.store 4 aS0 aS1)]
def F33.t28:IR:=.reg [.s (.bin .add .int aT23 aC1),iQm 23 0]
def F33.t31:IR:=.seq F33.t22 (.seq (.cond aT24 .skip (.exit 2)) (.seq (.block 3 (.seq F33.t24 F33.t25)) F33.t28))
def F33.t32:IR:=.loop F33.t31
def F33.t35:IR:=.reg [.s (.zu 1 aT1),.s (.load aS0),.s (.zx 1 aS0 aC0),iQo 25 (.load aS0),iQo 26 (.len aT25),iQo 27 (.mv aC0)]
def F33.t36:IR:=.reg [iQo 28 (.bin .lss .int aT27 aT26)]
def F33.t38:IR:=.reg [.s (.zx 1 aT25 aT27),.s (.load aS0),iQm 11 0]
def F33.t39:IR:=.jd [] [(.s (.zu 4 aT9),0,[]),(.s (.zk 4 aS0),0,[]),(iSm 8,0,[]),(iSm 11,0,[]),(.s (.zx 4 aS1 aS0),0,[]),(.s (.zk 4 aS0),0,[]),(iCa 114 [aS4,aS0],0,[]),(.s (.zu 4 aT9),0,[]),(.w .none none (.store 4 aS0 aS1),0,[])]
def F33.t42:IR:=.reg [.s (.bin .add .int aT27 aC1),iQm 27 0]
def F33.t45:IR:=.seq F33.t36 (.seq (.cond aT28 .skip (.exit 4)) (.seq (.block 5 (.seq F33.t38 F33.t39)) F33.t42))
def F33.t46:IR:=.loop F33.t45
def F33.t49:IR:=.reg [.s (.zu 4 aT9),.s (.zk 4 aS0),iCa 110 [aS0],.s (.bin .neq .int aS0 aC0),.s (.mv aS0),iPt 0 (.mv aT6),iPt 1 (.not aS0),iQo 29 (.pick aS2 aS0 (.c (.bool false)))]
def F33.t50:IR:=.reg [.s (.zu 0 aT9),.s (.zk 4 aS0),.s (.zu 4 aT9),.s (.zk 4 aS0),iCa 115 [aS2,aS0],.w .none none (.store 4 aT5 aS0),iQo 6 (.mv (.c (.bool true)))]
def F33.t53:IR:=.reg [iSm 7,.s (.zk 8 aT9),.w .push none (.yu 8 1 [(I 0),.zf,(I 0),.zf,(I 0),.zf,(I 0),.zf] [(0,8,aS0)]),.w .push none (.app 8 128 aS2 aS0),iQm 7 0]
def F33.t60:IR:=.reg [.s (.bin .add .int aT19 aC1),iQm 19 0]
def F33.t63:IR:=.seq F33.t17 (.seq (.cond aT20 .skip (.exit 0)) (.seq (.block 1 (.seq F33.t19 (.seq F33.t20 (.seq (.seq F33.t21 (.block 2 F33.t32)) (.seq (.seq F33.t35 (.block 4 F33.t46)) (.seq (.seq F33.t49 (.cond aT29 F33.t50 .skip)) F33.t53)))))) F33.t60))
def F33.t64:IR:=.loop F33.t63
def F33.zbe (r:List RO):List RO:=iQo 30 (.pick aS3 (.c (.bool true)) aS0)::r
def F33.aP:List RO:=F33.zbe []
def F33.zbd (r:List RO):List RO:=iPf 2 (.bin .eql .int aS0 aC0)::.s (.pick aS3 (.c (.bool true)) aS0)::.s (.mv aS0)::iPf 0 (.mv aT7)::iPf 1 (.fn 117 (.of 117) [aT5])::.w .push (some (aS2,false)) (.call (.c (.fn 116 (.of 116) [])) [aS1,aS0])::r
def F33.eu:List RO:=F33.zbd F33.aP
def F33.zbc (r:List RO):List RO:=iSm 6::.s (.not aS0)::.s (.mv aS0)::iPf 0 (.zk 4 aT5)::.w .push (some (aS1,false)) (.call (.c (.fn 110 (.of 110) [])) [aS0])::r
def F33.zac:List RO:=F33.zbc F33.eu
def F33.t67:IR:=.reg F33.zac
def F33.t68:IR:=.reg [iQo 2 (.mv aC0),iQo 3 (.mv aC7)]
def F33.t72:IR:=.jd [(.alloc [(I 0),.zf,(I 0),.zf])] [(.s (.zu 0 aT1),3,[]),(.s (.load aS0),3,[]),(.s (.zu 0 aT1),3,[]),(.s (.load aS0),3,[]),(.s (.bin .add .int aS0 aC1),3,[]),(.s (.bin .mul .int aS3 aS0),3,[]),(.s (.bin .quo .int aS0 aC2),3,[]),(.s (.zk 4 aT5),3,[]),(iCa 96 [aS1],0,[]),(iCa 115 [aS0,aS1],0,[]),(iWl 12 (.alloc [(I 0),.zf,(I 0),.zf]),0,[]),(.w .none none (.store 4 nX aS0),0,[])]
def F33.t73:IR:=.reg [.s (.zk 4 nX),iCa 120 [aS0],iCa 121 [aS0],.s (.mv aS0),.s (.ext 0 aS0),.s (.ext 1 aS1),iQm 13 1,iQm 14 0]
def F33.t74:IR:=.reg [.s (.zk 4 nX),iCa 122 [aS0],.s (.not aS0),.s (.mv aS0),iPf 0 (.mv oQ),iPf 1 (.not aS0),iQo 31 (.pick aS2 (.c (.bool true)) aS0)]
def F33.t75:IR:=.reg [iQo 2 (.mv aC0),iQo 3 (.mv aC21)]
def F33.t79:IR:=.reg [iSm 13,iQm 2 0,iQo 3 (.mv aC0)]
def F33.t91:IR:=.seq F33.t0 (.seq (.seq F33.t1 (.seq F33.t2 (.cond aO (iSr [iSm 4,iQo 2 (.mv aC0),iQm 3 0] .ret) .skip))) (.seq (.seq F33.t8 (.cond aT16 (.seq F33.t9 .ret) .skip)) (.seq F33.t13 (.seq F33.t14 (.seq F33.t15 (.seq (.seq F33.t16 (.block 0 F33.t64)) (.seq (.seq F33.t67 (.cond aT30 (.seq F33.t68 .ret) .skip)) (.seq F33.t72 (.seq F33.t73 (.seq (.seq F33.t74 (.cond aT31 (.seq F33.t75 .ret) .skip)) (.seq F33.t79 .ret)))))))))))
def F33.b0:IR:=F33.t91
def F33.res:List RV:=[.t (.of 2),.t (.of 3)]
def F33:Fn:={ params:=[(.of 0)],res:=F33.res,body:=F33.b0,init:=in32 }
theorem F33.ok:fnA Tryz.prog Tryz.f33 [0,1,2,3,4,5,6,7,9,10,12,14,15,16,17,21,26,29,30,31,32,38,39,40,41,53,54,55,56,75,97,120]=some F33:=by kernel_rfl
abbrev F35.fr:=fr5
def F35.t0:IR:=.reg [iWl 3 (.box aT0),iQo 4 (.mv (.c (.bool false)))]
def F35.zgb (r:List RO):List RO:=iQm 4 0::r
def F35.r1_3:List RO:=F35.zgb []
def F35.zga (r:List RO):List RO:=iPt 2 (.bin .eql .int aS0 aC0)::.s (.pick aS3 aS0 (.c (.bool false)))::.s (.mv aS0)::iPt 0 (.zu 0 aT3)::iPt 1 (.load aS0)::iPt 2 (.mv aT1)::iPt 3 (.bin .leq .int aS1 aS0)::.s (.pick aS4 aS0 (.c (.bool false)))::r
def F35.r1_2:List RO:=F35.zga F35.r1_3
def F35.aI (r:List RO):List RO:=.s (.mv aS0)::iPt 0 (.zk 2 aT3)::.w .push (some (aS1,true)) (.call (.c (.fn 19 (.of 19) [])) [aS0])::r
def F35.r1_1:List RO:=F35.aI F35.r1_2
def F35.aH (r:List RO):List RO:=.s (.zk 2 aT3)::iSm 1::iSm 2::iCa 16 [aS2,aS1,aS0]::r
def F35.eF:List RO:=F35.aH F35.r1_1
def F35.t1:IR:=.reg F35.eF
def F35.t3:IR:=.seq F35.t0 (.seq F35.t1 .ret)
def F35.b0:IR:=F35.t3
def F35.res:List RV:=[.t (.of 4)]
def F35:Fn:={ params:=[(.of 0),(.of 1),(.of 2)],res:=F35.res,body:=F35.b0,init:=in5 }
theorem F35.ok:fnA Tryz.prog Tryz.f35 [0,1,2,3,6]=some F35:=by kernel_rfl
abbrev F43.fr:=fr7
def F43.b0:IR:=(iSr [iWl 2 (.box aT0),iQo 3 (.mv (.c (.bool false))),iQo 4 (.mv aC0)] (.seq (iSr [.s (.zk 2 aT2),iSm 1,iCa 94 [aS1,aS0],iQm 5 0] (iSr [iSm 5,iQo 6 (.bin .neq .int aS0 aC0)] (.cond aT6 (iSr [iSm 5,iQo 3 (.mv (.c (.bool false))),iQm 4 0] .ret) .skip))) (iSr [.s (.zk 2 aT2),iSm 1,iCa 95 [aS1,aS0],.s (.bin .lss .int aS0 aC0),iQm 3 0,iQo 4 (.mv aC0)] .ret)))
def F43.res:List RV:=[.t (.of 3),.t (.of 4)]
def F43:Fn:={ params:=[(.of 0),(.of 1)],res:=F43.res,body:=F43.b0,init:=in7 }
theorem F43.ok:fnA Tryz.prog Tryz.f43 [0,1,2,4,5,6,11]=some F43:=by kernel_rfl
abbrev F46.fr:=fr8
def F46.b9:IR:=(.seq (iSr [iSm 4,iSm 0,.s (.len aS0),iQo 6 (.bin .lss .int aS2 aS0)] (.cond aT6 .skip (.exit 2))) (.seq (.block 3 (.reg [iSm 3,.s (.mv aS0),iPf 0 (.mv aT0),iPf 1 (.mv aT4),iPf 2 (.zx 1 aS1 aS0),iPf 3 (.load aS0),iPf 4 (.mv aT2),iPf 5 (.bin .eql .int aS1 aS0),.s (.pick aS6 (.c (.bool true)) aS0),iQm 3 0])) (.reg [iSm 4,.s (.bin .add .int aS0 aC1),iQm 4 0])))
def F46.b8:IR:=(.loop F46.b9)
def F46.g7 (X8:IR):IR:=(.block 2 X8)
def F46.b7:IR:=F46.g7 F46.b8
def F46.b14:IR:=(iSr [iSm 3,iQo 7 (.not aS0)] (.cond aT7 (iSr [iQo 1 (.mv (.c (.bool false)))] .ret) .skip))
def F46.b15:IR:=(.reg [iSm 2,.s (.bin .add .int aS0 aC1),iQm 2 0])
def F46.b3:IR:=(.seq (iSr [iSm 2,iSm 0,.s (.len aS0),iQo 5 (.bin .leq .int aS2 aS0)] (.cond aT5 .skip (.exit 0))) (.seq (.block 1 (iSr [iQo 3 (.mv (.c (.bool false)))] (.seq (iSr [iQo 4 (.mv aC0)] F46.b7) F46.b14))) F46.b15))
def F46.b2:IR:=(.loop F46.b3)
def F46.g1 (X2:IR):IR:=(.block 0 X2)
def F46.b1:IR:=F46.g1 F46.b2
def F46.b16:IR:=(iSr [iQo 1 (.mv (.c (.bool true)))] .ret)
def F46.b0:IR:=(iSr [iQo 1 (.mv (.c (.bool false)))] (.seq (iSr [iQo 2 (.mv aC1)] F46.b1) F46.b16))
def F46.res:List RV:=[.t (.of 1)]
def F46:Fn:={ params:=[(.of 0)],res:=F46.res,body:=F46.b0,init:=in8 }
theorem F46.ok:fnA Tryz.prog Tryz.f46 [0,2,3,4,5,9,15,28]=some F46:=by kernel_rfl
abbrev F47.fr:=fr6
def F47.b0:IR:=(iSr [iWl 1 (.box aT0),iQo 2 (.mv (.c .zf)),iQo 3 (.mv aC0)] (.seq (.seq (.jd [] [(.s (.load aT1),0,[]),(.s (.load aT1),1,[]),(iCa 135 [aS1],0,[]),(iCa 136 [aS1],0,[]),(.s (.not aS0),0,[]),(iCa 88 [aS0,aC14],0,[]),(.w .push none (.yu 1 2 [(I 0)] [(0,1,aS3),(1,1,aS0)]),0,[]),(iCa 86 [aS0],0,[]),(iQm 4 0,0,[])]) (iSr [iSm 4,iQo 5 (.bin .neq .int aS0 aC0)] (.cond aT5 (iSr [iSm 4,iQo 2 (.mv (.c .zf)),iQm 3 0] .ret) .skip))) (iSr [.s (.load aT1),.s (.len aS0),.s (.fn 138 (.of 138) [aT1]),iCa 137 [aS1,aS0],iQm 2 0,iQo 3 (.mv aC0)] .ret)))
def F47.res:List RV:=[.t (.of 2),.t (.of 3)]
def F47:Fn:={ params:=[(.of 0)],res:=F47.res,body:=F47.b0,init:=in6 }
theorem F47.ok:fnA Tryz.prog Tryz.f47 [0,1,2,3,4,14]=some F47:=by kernel_rfl
abbrev F48.fr:=fr7
def F48.b0:IR:=(iSr [iWl 2 (.box aT0),iQo 3 (.mv (.c .zf)),iQo 4 (.mv aC0)] (.seq (iSr [.s (.zk 2 aT2),iSm 1,iCa 94 [aS1,aS0],iQm 5 0] (iSr [iSm 5,iQo 6 (.bin .neq .int aS0 aC0)] (.cond aT6 (iSr [iSm 5,iQo 3 (.mv (.c .zf)),iQm 4 0] .ret) .skip))) (iSr [.s (.zk 2 aT2),iSm 1,iCa 139 [aS1,aS0],iQm 3 0,iQo 4 (.mv aC0)] .ret)))
def F48.res:List RV:=[.t (.of 3),.t (.of 4)]
def F48:Fn:={ params:=[(.of 0),(.of 1)],res:=F48.res,body:=F48.b0,init:=in7 }
theorem F48.ok:fnA Tryz.prog Tryz.f48 [0,1,2,4,5,6,11]=some F48:=by kernel_rfl
abbrev F49.fr:=fr7
def F49.b4:IR:=(.seq (iSr [iSm 3,iSm 0,.s (.len aS0),iQo 5 (.bin .lss .int aS2 aS0)] (.cond aT5 .skip (.exit 0))) (.seq (.block 1 (.seq (.jd [] [(iSm 0,0,[]),(iSm 3,0,[]),(.s (.zx 1 aS1 aS0),0,[]),(.s (.load aS0),0,[]),(iSm 1,0,[]),(iSm 3,0,[]),(.s (.zx 1 aS1 aS0),0,[]),(.s (.load aS0),0,[]),(iQo 6 (.bin .neq .int aS4 aS0),0,[])]) (.cond aT6 (iSr [iQo 2 (.mv (.c (.bool false)))] .ret) .skip))) (.reg [iSm 3,.s (.bin .add .int aS0 aC1),iQm 3 0])))
def F49.b3:IR:=(.loop F49.b4)
def F49.g2 (X3:IR):IR:=(.block 0 X3)
def F49.b2:IR:=F49.g2 F49.b3
def F49.b9:IR:=(iSr [iQo 2 (.mv (.c (.bool true)))] .ret)
def F49.b0:IR:=(iSr [iQo 2 (.mv (.c (.bool false)))] (.seq (iSr [iSm 0,.s (.len aS0),iSm 1,.s (.len aS0),iQo 4 (.bin .neq .int aS2 aS0)] (.cond aT4 (iSr [iQo 2 (.mv (.c (.bool false)))] .ret) .skip)) (.seq (iSr [iQo 3 (.mv aC0)] F49.b2) F49.b9)))
def F49.res:List RV:=[.t (.of 2)]
def F49:Fn:={ params:=[(.of 0),(.of 1)],res:=F49.res,body:=F49.b0,init:=in7 }
theorem F49.ok:fnA Tryz.prog Tryz.f49 [0,1,4,5,10,14,25]=some F49:=by kernel_rfl
abbrev F51.fr:=fr13
def F51.b0:IR:=(iSr [iWl 1 (.box aT0),iQo 2 (.mv (.c .zf)),iQo 3 (.mv aC0)] (.seq (iSr [.s (.zk 3 aT1),iCa 140 [aS0],iQm 4 0] (iSr [iSm 4,iQo 7 (.bin .neq .int aS0 aC0)] (.cond aT7 (iSr [iSm 4,iQo 2 (.mv (.c .zf)),iQm 3 0] .ret) .skip))) (iSr [iQo 5 (.mv (.c .zf))] (.seq (iSr [iWl 8 (.call (.c (.fn 141 (.of 141) [])) []),iQo 9 (.len aT8),iQo 10 (.mv aC0)] (.block 0 (.loop (iSr [iQo 11 (.bin .lss .int nV aT9)] (.seq (.cond rU .skip (.exit 0)) (.seq (.block 1 (iSr [.s (.zx 2 aT8 nV),.s (.zk 2 aS0),iWl 6 (.alloc [(.str []),.fK]),.w .none none (.store 2 aT6 aS0)] (.seq (.jd [] [(.s (.zu 1 aT6),1,[]),(.s (.load aS0),1,[]),(.s (.zu 0 aT1),1,[]),(.s (.load aS0),1,[]),(.s (.zu 2 aT1),0,[]),(.s (.load aS0),0,[]),(iCa 142 [aS0],0,[]),(.s (.build [(I 0),.zf] [(0,1,aS3),(1,1,aS0)]),0,[]),(iWl 12 (.call aS6 [aS0]),0,[])]) (.cond nX (.reg [iSm 5,.s (.zu 0 aT6),.s (.load aS0),.w .push none (.yu 1 1 [(.str [])] [(0,1,aS0)]),.w .push none (.app 1 16 aS3 aS0),iQm 5 0]) .skip)))) (.reg [.s (.bin .add .int nV aC1),iQm 10 0]))))))) (iSr [iSm 5,iQm 2 0,iQo 3 (.mv aC0)] .ret)))))
def F51.res:List RV:=[.t (.of 2),.t (.of 3)]
def F51:Fn:={ params:=[(.of 0)],res:=F51.res,body:=F51.b0,init:=in13 }
theorem F51.ok:fnA Tryz.prog Tryz.f51 [0,1,2,3,4,5,7,11,13,14,15,16,27]=some F51:=by kernel_rfl
abbrev F53.fr:=fr9
def F53.b0:IR:=(iSr [iQo 2 (.mv (.c (.bool false)))] (.seq (iSr [iSm 0,.s (.len aS0),iSm 1,.s (.len aS0),iQo 4 (.bin .neq .int aS2 aS0)] (.cond aT4 (iSr [iQo 2 (.mv (.c (.bool false)))] .ret) .skip)) (.seq (iSr [iSm 0,iQo 5 (.len aS0),iQo 6 (.mv aC0)] (.block 0 (.loop (iSr [iQo 7 (.bin .lss .int aT6 aT5)] (.seq (.cond aT7 .skip (.exit 0)) (.seq (.block 1 (iSr [iSm 6,iQm 3 0] (.seq (.jd [] [(iSm 0,0,[]),(iSm 3,0,[]),(.s (.zx 1 aS1 aS0),0,[]),(.s (.load aS0),0,[]),(iSm 1,0,[]),(iSm 3,0,[]),(.s (.zx 1 aS1 aS0),0,[]),(.s (.load aS0),0,[]),(iQo 8 (.bin .neq .str aS4 aS0),0,[])]) (.cond aT8 (iSr [iQo 2 (.mv (.c (.bool false)))] .ret) .skip)))) (.reg [.s (.bin .add .int aT6 aC1),iQm 6 0]))))))) (iSr [iQo 2 (.mv (.c (.bool true)))] .ret))))
def F53.res:List RV:=[.t (.of 2)]
def F53:Fn:={ params:=[(.of 0),(.of 1)],res:=F53.res,body:=F53.b0,init:=in9 }
theorem F53.ok:fnA Tryz.prog Tryz.f53 [0,1,4,5,10,12,13,14,24]=some F53:=by kernel_rfl
abbrev F65.fr:=fr7
def F65.b0:IR:=(iSr [iWl 2 (.alloc [(I 0),.zf]),iQo 3 (.mv aC0)] (iSr [.w .push none (.yu 1 3 [(.str [])] [(0,1,(.c (.str [115,101,109,105,109,97,103,105,99]))),(1,1,(.c (.str [109,97,103,105,99]))),(2,1,(.c (.str [112,97,110,100,105,97,103,111,110,97,108])))]),iSm 0,iCa 151 [aS1,aS0],iQm 4 0] (.seq (iSr [iSm 4,.s (.not aS0),iCa 88 [aS0,aC13],iSm 1,.w .push none (.yu 1 1 [(I 0)] [(0,1,aS0)]),iCa 87 [aC1,aC16,aS0],.w .push none (.yu 1 2 [(I 0)] [(0,1,aS3),(1,1,aS0)]),iCa 86 [aS0],iQm 5 0] (iSr [iSm 5,iQo 6 (.bin .neq .int aS0 aC0)] (.cond aT6 (iSr [.s (.build [(I 0),.zf] []),iSm 5,.w .none none (.store 2 aT2 aS1),iQm 3 0] .ret) .skip))) (iSr [iSm 0,iSm 1,iCa 152 [aS1,aS0],.w .none none (.store 2 aT2 aS0),iQo 3 (.mv aC0)] .ret))))
def F65.res:List RV:=[.cell (.of 2) (some 2),.t (.of 3)]
def F65:Fn:={ params:=[(.of 0),(.of 1)],res:=F65.res,body:=F65.b0,init:=in7 }
theorem F65.ok:fnA Tryz.prog Tryz.f65 [0,1,4,5,6,7,20]=some F65:=by kernel_rfl
abbrev F69.fr:=fr10
def F69.b0:IR:=(iSr [iWl 1 (.alloc [(I 0),.zf]),iQo 2 (.mv aC0)] (.seq (iSr [iSm 0,.w .push none (.yu 1 1 [(I 0)] [(0,1,aS0)]),iCa 87 [aC5,aC16,aS0],iQm 3 0] (iSr [iSm 3,iQo 6 (.bin .neq .int aS0 aC0)] (.cond aT6 (iSr [.s (.build [(I 0),.zf] []),iSm 3,.w .none none (.store 2 aT1 aS1),iQm 2 0] .ret) .skip))) (iSr [iQo 4 (.mv (.c .zf))] (.seq (iSr [iQo 7 (.mv aT0),iQo 8 (.mv aC0)] (.block 0 (.loop (iSr [iQo 9 (.bin .lss .int aT8 aT7)] (.seq (.cond aT9 .skip (.exit 0)) (.seq (.block 1 (iSr [iSm 8,iQm 5 0] (.jd [] [(iSm 4,2,[]),(iSm 5,0,[]),(iSm 5,0,[]),(.s (.bin .add .int aS0 aC2),0,[]),(iSm 0,0,[]),(.s (.bin .rem .int aS1 aS0),0,[]),(iSm 0,0,[]),(iSm 5,0,[]),(.s (.bin .add .int aS1 aS0),0,[]),(iSm 0,0,[]),(iSm 5,0,[]),(.s (.bin .add .int aS0 aC1),0,[]),(iSm 0,0,[]),(.s (.bin .rem .int aS1 aS0),0,[]),(.s (.bin .add .int aS4 aS0),0,[]),(.w .push none (.yu 1 4 [(I 0)] [(0,1,aS13),(1,1,aS9),(2,1,aS6),(3,1,aS0)]),0,[]),(.w .push none (.yu 1 1 [.zf] [(0,1,aS0)]),0,[]),(.w .push none (.app 1 24 aS16 aS0),0,[]),(iQm 4 0,0,[])]))) (.reg [.s (.bin .add .int aT8 aC1),iQm 8 0]))))))) (iSr [iSm 0,.s (.bin .mul .int aC2 aS0),iSm 4,iCa 153 [aS1,aS0],.w .none none (.store 2 aT1 aS0),iQo 2 (.mv aC0)] .ret)))))
def F69.res:List RV:=[.cell (.of 1) (some 2),.t (.of 2)]
def F69:Fn:={ params:=[(.of 0)],res:=F69.res,body:=F69.b0,init:=in10 }
theorem F69.ok:fnA Tryz.prog Tryz.f69 [0,2,3,4,5,6,11,14,15,16]=some F69:=by kernel_rfl
abbrev F78.fr:=fr7
def F78.b0:IR:=(iSr [iWl 2 (.box aT0),iQo 3 (.mv (.c .zf)),iQo 4 (.mv aC0)] (.seq (iSr [.s (.zk 2 aT2),iSm 1,iCa 168 [aS1,aS0],iQm 5 0] (iSr [iSm 5,iQo 6 (.bin .neq .int aS0 aC0)] (.cond aT6 (iSr [iSm 5,iQo 3 (.mv (.c .zf)),iQm 4 0] .ret) .skip))) (iSr [.s (.zk 2 aT2),iSm 1,iCa 169 [aS1,aS0],iQm 3 0,iQo 4 (.mv aC0)] .ret)))
def F78.res:List RV:=[.t (.of 3),.t (.of 4)]
def F78:Fn:={ params:=[(.of 0),(.of 1)],res:=F78.res,body:=F78.b0,init:=in7 }
theorem F78.ok:fnA Tryz.prog Tryz.f78 [0,1,2,4,5,6,11]=some F78:=by kernel_rfl
abbrev F85.fr:=fr1
def F85.b0:IR:=(iSr [iQo 0 (.mv (.c .zf))] (iSr [.w .push none (.yu 1 9 [(I 0)] [(0,1,aC2),(1,1,aC7),(2,1,aC6),(3,1,aC9),(4,1,aC5),(5,1,aC1),(6,1,aC4),(7,1,aC3),(8,1,aC8)]),iQm 0 0] .ret))
def F85.res:List RV:=[.t (.of 0)]
def F85:Fn:={ params:=[],res:=F85.res,body:=F85.b0,init:=in1 }
theorem F85.ok:fnA Tryz.prog Tryz.f85 [0]=some F85:=by kernel_rfl
abbrev F86.fr:=fr8
def F86.b3:IR:=(iSr [iQo 6 (.bin .lss .int aT5 aT4)] (.seq (.cond aT6 .skip (.exit 0)) (.seq (.block 1 (iSr [.s (.zx 1 aT3 aT5),.s (.load aS0),iQm 2 0] (iSr [iSm 2,iQo 7 (.bin .neq .int aS0 aC0)] (.cond aT7 (iSr [iSm 2,iQm 1 0] .ret) .skip)))) (.reg [.s (.bin .add .int aT5 aC1),iQm 5 0]))))
def F86.b2:IR:=(.loop F86.b3)
def F86.g1 (X2:IR):IR:=(.block 0 X2)
def F86.b1:IR:=F86.g1 F86.b2
def F86.b8:IR:=(iSr [iQo 1 (.mv aC0)] .ret)
def F86.b0:IR:=(iSr [iQo 1 (.mv aC0)] (.seq (iSr [iQo 3 (.mv aT0),iQo 4 (.len aT3),iQo 5 (.mv aC0)] F86.b1) F86.b8))
def F86.res:List RV:=[.t (.of 1)]
def F86:Fn:={ params:=[(.of 0)],res:=F86.res,body:=F86.b0,init:=in8 }
theorem F86.ok:fnA Tryz.prog Tryz.f86 [0,2,4,5,6,7,8,12]=some F86:=by kernel_rfl
abbrev F87.fr:=fr6
def F87.b0:IR:=(iSr [iWl 3 (.box aT0),iWl 4 (.box aT1),iQo 5 (.mv aC0)] (iSr [iSm 2,.s (.fn 174 (.of 174) [aT3,aT4]),iCa 173 [aS1,aS0],iCa 88 [aS0,aC3],iQm 5 0] .ret))
def F87.res:List RV:=[.t (.of 5)]
def F87:Fn:={ params:=[(.of 0),(.of 1),(.of 2)],res:=F87.res,body:=F87.b0,init:=in6 }
theorem F87.ok:fnA Tryz.prog Tryz.f87 [0,1,2,3,4,6]=some F87:=by kernel_rfl
abbrev F88.fr:=fr4
def F88.b0:IR:=(iSr [iQo 2 (.mv aC0)] (.seq (iSr [iQo 3 (.mv aT0)] (.cond aT3 (iSr [iSm 1,iQm 2 0] .ret) .skip)) (iSr [iQo 2 (.mv aC0)] .ret)))
def F88.res:List RV:=[.t (.of 2)]
def F88:Fn:={ params:=[(.of 0),(.of 1)],res:=F88.res,body:=F88.b0,init:=in4 }
theorem F88.ok:fnA Tryz.prog Tryz.f88 [0,1,4,5]=some F88:=by kernel_rfl
abbrev F89.fr:=fr14
def F89.b4:IR:=(iSr [iQo 12 (.bin .lss .int rU nV)] (.seq (.cond nX .skip (.exit 0)) (.seq (.block 1 (iSr [iSm 11,.s (.zx 1 aT9 rU),.s (.load aS0),iQm 5 2,iQm 6 0] (iSr [iSm 6,.s (.bin .lss .int aS0 aC0),.s (.mv aS0),iPf 0 (.mv aT6),iPf 1 (.zu 0 aT2),iPf 2 (.load aS0),iPf 3 (.bin .geq .int aS2 aS0),.s (.pick aS4 (.c (.bool true)) aS0),iCa 88 [aS0,aC10],iSm 5,.s (.bin .gtr .int aS0 aC0),.s (.mv aS0),iPt 0 (.load aT4),iPt 1 (.mv aT5),iPt 2 (.bin .sub .int aS0 aC1),iPt 3 (.zx 1 aS2 aS0),iPt 4 (.load aS0),iPt 5 (.mv aT6),iPt 6 (.bin .geq .int aS1 aS0),.s (.pick aS7 aS0 (.c (.bool false))),iCa 88 [aS0,aC11],.w .push none (.yu 1 2 [(I 0)] [(0,1,aS12),(1,1,aS0)]),iCa 86 [aS0],iQm 7 0] (iSr [iSm 7,iQo 13 (.bin .neq .int aS0 aC0)] (.cond sO (iSr [iSm 7,iQm 3 0] .ret) .skip))))) (.reg [.s (.bin .add .int rU aC1),iQm 11 0]))))
def F89.b3:IR:=(.loop F89.b4)
def F89.g2 (X3:IR):IR:=(.block 0 X3)
def F89.b2:IR:=F89.g2 F89.b3
def F89.b9:IR:=(iSr [.s (.zu 1 aT2),.s (.load aS0),iSm 1,.s (.slice 1 aS1 none (some aS0) none),.s (.fn 176 (.of 176) [aT4]),iCa 175 [aS1,aS0],iCa 88 [aS0,aC9],iQm 3 0] .ret)
def F89.b0:IR:=(iSr [iWl 2 (.box aT0),iQo 3 (.mv aC0)] (iSr [.s (.zu 1 aT2),.s (.load aS0),iSm 1,.s (.zx 1 aS1 aS0),.s (.load aS0),iWl 4 (.alloc [.zf]),.w .none none (.store 1 aT4 aS0)] (.seq (iSr [.s (.load aT4),.s (.len aS0),iQo 8 (.bin .eql .int aS0 aC0)] (.cond aT8 (iSr [iQo 3 (.mv aC12)] .ret) .skip)) (.seq (iSr [iQo 9 (.load aT4),iQo 10 (.len aT9),iQo 11 (.mv aC0)] F89.b2) F89.b9))))
def F89.res:List RV:=[.t (.of 3)]
def F89:Fn:={ params:=[(.of 0),(.of 1)],res:=F89.res,body:=F89.b0,init:=in14 }
theorem F89.ok:fnA Tryz.prog Tryz.f89 [0,1,2,4,5,6,7,8,16,17,18,19,20,48]=some F89:=by kernel_rfl
abbrev F90.fr:=fr6
def F90.b3:IR:=(.seq (iSr [iSm 3,iSm 0,.s (.len aS0),iQo 4 (.bin .lss .int aS2 aS0)] (.cond aT4 .skip (.exit 0))) (.seq (.block 1 (iSr [iSm 0,iSm 3,.s (.zx 1 aS1 aS0),.s (.load aS0),iSm 1,iWl 5 (.call (.c (.fn 49 (.of 49) [])) [aS1,aS0])] (.cond aT5 (iSr [iQo 2 (.mv (.c (.bool true)))] .ret) .skip))) (.reg [iSm 3,.s (.bin .add .int aS0 aC1),iQm 3 0])))
def F90.b2:IR:=(.loop F90.b3)
def F90.g1 (X2:IR):IR:=(.block 0 X2)
def F90.b1:IR:=F90.g1 F90.b2
def F90.b8:IR:=(iSr [iQo 2 (.mv (.c (.bool false)))] .ret)
def F90.b0:IR:=(iSr [iQo 2 (.mv (.c (.bool false)))] (.seq (iSr [iQo 3 (.mv aC0)] F90.b1) F90.b8))
def F90.res:List RV:=[.t (.of 2)]
def F90:Fn:={ params:=[(.of 0),(.of 1)],res:=F90.res,body:=F90.b0,init:=in6 }
theorem F90.ok:fnA Tryz.prog Tryz.f90 [0,1,4,5,9,17]=some F90:=by kernel_rfl
abbrev F91.fr:=fr4
def F91.b0:IR:=(iSr [iWl 2 (.box aT1),iQo 3 (.mv (.c (.bool false)))] (iSr [iSm 0,.s (.zk 2 aT2),iCa 178 [aS1,aS0],.s (.bin .geq .int aS0 aC0),iQm 3 0] .ret))
def F91.res:List RV:=[.t (.of 3)]
def F91:Fn:={ params:=[(.of 0),(.of 1)],res:=F91.res,body:=F91.b0,init:=in4 }
theorem F91.ok:fnA Tryz.prog Tryz.f91 [0,1,3,4]=some F91:=by kernel_rfl
abbrev F92.fr:=fr10
def F92.b0:IR:=(iSr [iQo 1 (.mv (.c .zf)),iQo 2 (.mv aC0)] (iSr [iQo 3 (.mv (.c .zf))] (.seq (iSr [iQo 5 (.mv aT0),iQo 6 (.len aT5),iQo 7 (.mv aC0)] (.block 0 (.loop (iSr [iQo 8 (.bin .lss .int aT7 aT6)] (.seq (.cond aT8 .skip (.exit 0)) (.seq (.block 1 (iSr [.s (.zx 1 aT5 aT7),.s (.load aS0),iQm 4 0] (.seq (iSr [iSm 4,iWl 9 (.call (.c (.fn 179 (.of 179) [])) [aS0,(.c (.fn 180 (.of 180) []))])] (.cond aT9 (iSr [iQo 1 (.mv (.c .zf)),iQo 2 (.mv aC4)] .ret) .skip)) (.reg [iSm 3,iSm 4,iCa 181 [aS0],.w .push none (.yu 1 1 [.zf] [(0,1,aS0)]),.w .push none (.app 1 24 aS3 aS0),iQm 3 0])))) (.reg [.s (.bin .add .int aT7 aC1),iQm 7 0]))))))) (iSr [iSm 3,iQm 1 0,iQo 2 (.mv aC0)] .ret))))
def F92.res:List RV:=[.t (.of 1),.t (.of 2)]
def F92:Fn:={ params:=[(.of 0)],res:=F92.res,body:=F92.b0,init:=in10 }
theorem F92.ok:fnA Tryz.prog Tryz.f92 [0,2,3,4,6,7,8,9,10,14]=some F92:=by kernel_rfl
abbrev F93.fr:=fr36
def F93.t0:IR:=.reg [iWl 1 (.box aT0),iWl 2 (.alloc [.zf,.zf])]
def F93.t1:IR:=.reg [.s (.zu 0 aT1),.s (.load aS0),iQm 3 0]
def F93.t2:IR:=.reg [iQo 4 (.mv (.c .zf))]
def F93.t3:IR:=.reg [iQo 5 (.mv (.c .zf))]
def F93.t4:IR:=.reg [iQo 6 (.mv aC1)]
def F93.t5:IR:=.reg [iSm 6,.s (.zu 1 aT1),.s (.load aS0),.s (.len aS0),iQo 17 (.bin .lss .int aS3 aS0)]
def F93.t8:IR:=.reg [iSm 3,.s (.zu 1 aT1),.s (.load aS0),iSm 6,.s (.zx 1 aS1 aS0),.s (.load aS0),iCa 104 [aS5,aS0],iQm 7 0]
def F93.t9:IR:=.jd [] [(iSm 7,2,[]),(iSm 3,1,[]),(.s (.zu 1 aT1),1,[]),(.s (.load aS0),1,[]),(.s (.zx 1 aS0 aC0),1,[]),(.s (.load aS0),1,[]),(iCa 96 [aC1],0,[]),(iCa 104 [aS5,aS1],0,[]),(iCa 106 [aS7,aS1,aS0],0,[])]
def F93.t10:IR:=.reg [iQo 18 (.mv aT5),iQo 19 (.len oU),iQo 20 (.mv aC0)]
def F93.t11:IR:=.reg [iQo 21 (.bin .lss .int aT20 aT19)]
def F93.t13:IR:=.reg [iSm 20,.s (.zx 1 oU aT20),.s (.load aS0),iQm 8 2,iQm 9 0]
def F93.t14:IR:=.jd [] [(iSm 7,0,[]),(iSm 7,0,[]),(iSm 9,0,[]),(.s (.zx 4 aS1 aS0),0,[]),(.s (.zk 4 aS0),0,[]),(iSm 4,0,[]),(iSm 8,0,[]),(.s (.zx 1 aS1 aS0),0,[]),(.s (.load aS0),0,[]),(iCa 106 [aS8,aS4,aS0],0,[])]
def F93.t17:IR:=.reg [.s (.bin .add .int aT20 aC1),iQm 20 0]
def F93.t20:IR:=.seq F93.t11 (.seq (.cond aT21 .skip (.exit 2)) (.seq (.block 3 (.seq F93.t13 F93.t14)) F93.t17))
def F93.t21:IR:=.loop F93.t20
def F93.t24:IR:=.reg [iSm 3,.s (.bin .sub .int aS0 aC1),iQm 10 0]
def F93.znw (r:List RO):List RO:=iPt 5 (.bin .eql .int aS0 aC0)::iQo 22 (.pick aS6 aS0 (.c (.bool false)))::r
def F93.zp7:List RO:=F93.znw []
def F93.znv (r:List RO):List RO:=iSm 10::.s (.bin .geq .int aS0 aC0)::.s (.mv aS0)::iPt 0 (.mv aT7)::iPt 1 (.mv nV)::iPt 2 (.zx 4 aS1 aS0)::iPt 3 (.zk 4 aS0)::.w .push (some (aS4,true)) (.call (.c (.fn 110 (.of 110) [])) [aS0])::r
def F93.znu:List RO:=F93.znv F93.zp7
def F93.t25:IR:=.reg F93.znu
def F93.t28:IR:=.reg [iSm 10,.s (.bin .sub .int aS0 aC1),iQm 10 0]
def F93.t30:IR:=.seq (.seq F93.t25 (.cond aT22 .skip (.exit 4))) (.block 5 F93.t28)
def F93.t31:IR:=.loop F93.t30
def F93.t33:IR:=.reg [iSm 10,iQo 23 (.bin .lss .int aS0 aC0)]
def F93.t36:IR:=.reg [iSm 7,iSm 7,iSm 10,.s (.zx 4 aS1 aS0),.s (.zk 4 aS0),iCa 112 [aS0],iCa 111 [aS5,aS0]]
def F93.t37:IR:=.reg [iQo 24 (.mv aT4),iQo 25 (.len aT24),iQo 26 (.mv aC0)]
def F93.t38:IR:=.reg [iQo 27 (.bin .lss .int aT26 aT25)]
def F93.t40:IR:=.reg [.s (.zx 1 aT24 aT26),.s (.load aS0),iQm 11 0]
def F93.t41:IR:=.reg [iSm 11,iSm 11,iSm 10,.s (.zx 4 aS1 aS0),.s (.zk 4 aS0),iSm 7,iCa 106 [aS5,aS1,aS0]]
def F93.t44:IR:=.reg [.s (.bin .add .int aT26 aC1),iQm 26 0]
def F93.t47:IR:=.seq F93.t38 (.seq (.cond aT27 .skip (.exit 6)) (.seq (.block 7 (.seq F93.t40 F93.t41)) F93.t44))
def F93.t48:IR:=.loop F93.t47
def F93.t51:IR:=.reg [iSm 4,iSm 7,.w .push none (.yu 1 1 [.zf] [(0,1,aS0)]),.w .push none (.app 1 24 aS2 aS0),iSm 5,iSm 10,.w .push none (.yu 1 1 [(I 0)] [(0,1,aS0)]),.w .push none (.app 1 8 aS2 aS0),iQm 4 4,iQm 5 0]
def F93.t61:IR:=.reg [iSm 6,.s (.bin .add .int aS0 aC1),iQm 6 0]
def F93.t63:IR:=.seq (.seq F93.t5 (.cond aW .skip (.exit 0))) (.seq (.block 1 (.seq F93.t8 (.seq F93.t9 (.seq (.seq F93.t10 (.block 2 F93.t21)) (.seq F93.t24 (.seq (.block 4 F93.t31) (.seq (.seq F93.t33 (.cond aT23 (.exit 1) .skip)) (.seq F93.t36 (.seq (.seq F93.t37 (.block 6 F93.t48)) F93.t51))))))))) F93.t61)
def F93.t64:IR:=.loop F93.t63
def F93.t67:IR:=.reg [iWl 12 (.alloc [.zf,.zf])]
def F93.t68:IR:=.reg [iQo 28 (.mv aT3),iQo 29 (.mv aC0)]
def F93.t69:IR:=.reg [iQo 30 (.bin .lss .int aT29 aT28)]
def F93.t71:IR:=.reg [iSm 29,iQm 13 0]
def F93.t72:IR:=.reg [iSm 5,iSm 13,iWl 31 (.call (.c (.fn 182 (.of 182) [])) [aS1,aS0])]
def F93.t75:IR:=.reg [iSm 3,iCa 105 [aS0],iQm 14 0]
def F93.t76:IR:=.reg [iSm 14,iSm 13,iCa 96 [aC1],.s (.zx 4 aS2 aS1),.w .none none (.store 4 aS0 aS1)]
def F93.t77:IR:=.reg [iQo 32 (.mv aT5),iQo 33 (.len aT32),iQo 34 (.mv aC0)]
def F93.t78:IR:=.reg [iQo 35 (.bin .lss .int aT34 aT33)]
def F93.t80:IR:=.reg [iSm 34,.s (.zx 1 aT32 aT34),.s (.load aS0),iQm 15 2,iQm 16 0]
def F93.t81:IR:=.reg [iSm 14,iSm 16,iSm 4,iSm 15,.s (.zx 1 aS1 aS0),.s (.load aS0),iSm 13,.s (.zx 4 aS1 aS0),.s (.zk 4 aS0),iCa 107 [aS0],.s (.zx 4 aS9 aS8),.w .none none (.store 4 aS0 aS1)]
def F93.t84:IR:=.reg [.s (.bin .add .int aT34 aC1),iQm 34 0]
def F93.t87:IR:=.seq F93.t78 (.seq (.cond aT35 .skip (.exit 10)) (.seq (.block 11 (.seq F93.t80 F93.t81)) F93.t84))
def F93.t88:IR:=.loop F93.t87
def F93.t91:IR:=.jd [] [(.s (.zu 0 nX),3,[]),(.s (.load aS0),3,[]),(iSm 13,3,[(.yu 1 1 [(I 0)] [(0,1,aS0)])]),(.s (.zu 1 nX),3,[]),(.s (.load aS0),3,[]),(iSm 14,2,[(.yu 1 1 [.zf] [(0,1,aS0)])]),(.w .push none (.yu 1 1 [(I 0)] [(0,1,aS3)]),0,[]),(.w .push none (.app 1 8 aS5 aS0),0,[]),(.s (.zu 0 nX),2,[]),(.w .push none (.yu 1 1 [.zf] [(0,1,aS3)]),0,[]),(.w .push none (.app 1 24 aS5 aS0),0,[]),(.w .none none (.store 1 aS2 aS3),0,[]),(.s (.zu 1 nX),0,[]),(.w .none none (.store 1 aS0 aS1),0,[])]
def F93.t98:IR:=.reg [.s (.bin .add .int aT29 aC1),iQm 29 0]
def F93.t101:IR:=.seq F93.t69 (.seq (.cond aT30 .skip (.exit 8)) (.seq (.block 9 (.seq F93.t71 (.seq (.seq F93.t72 (.cond aT31 (.exit 9) .skip)) (.seq F93.t75 (.seq F93.t76 (.seq (.seq F93.t77 (.block 10 F93.t88)) F93.t91)))))) F93.t98))
def F93.t102:IR:=.loop F93.t101
def F93.t105:IR:=.reg [.s (.zk 2 nX),.w .none none (.store 2 aT2 aS0)]
def F93.t113:IR:=.seq F93.t0 (.seq F93.t1 (.seq F93.t2 (.seq F93.t3 (.seq (.seq F93.t4 (.block 0 F93.t64)) (.seq F93.t67 (.seq (.seq F93.t68 (.block 8 F93.t102)) (.seq F93.t105 .ret)))))))
def F93.b0:IR:=F93.t113
def F93.res:List RV:=[.cell (.of 2) (some 2)]
def F93:Fn:={ params:=[(.of 0)],res:=F93.res,body:=F93.b0,init:=in36 }
theorem F93.ok:fnA Tryz.prog Tryz.f93 [0,1,2,3,4,5,6,7,8,9,10,12,13,14,15,16,17,24,43,44,45,46,72,76,84,85,86,87,106,107,108,112,119,120,121,122]=some F93:=by kernel_rfl
abbrev F94.fr:=fr4
def F94.b0:IR:=(iSr [iWl 2 (.box aT0),iQo 3 (.mv aC0)] (.seq (.jd [] [(.s (.zk 2 aT2),0,[]),(iSm 1,1,[]),(.s (.len aS0),1,[]),(.s (.zu 0 aT2),1,[]),(.s (.load aS0),1,[]),(.s (.bin .neq .int aS2 aS0),1,[]),(iSm 1,2,[]),(iCa 18 [aS6],0,[]),(iCa 88 [aS2,aC2],0,[]),(iCa 183 [aS2],0,[]),(.w .push none (.yu 1 3 [(I 0)] [(0,1,aS2),(1,1,aS1),(2,1,aS0)]),0,[]),(iCa 86 [aS0],0,[]),(iQm 3 0,0,[])]) .ret))
def F94.res:List RV:=[.t (.of 3)]
def F94:Fn:={ params:=[(.of 0),(.of 1)],res:=F94.res,body:=F94.b0,init:=in4 }
theorem F94.ok:fnA Tryz.prog Tryz.f94 [0,1,2,4]=some F94:=by kernel_rfl
abbrev F95.fr:=fr5
def F95.b0:IR:=(iSr [iWl 2 (.box aT0),iQo 3 (.mv aC0)] (iSr [.s (.zk 2 aT2),iSm 1,iCa 139 [aS1,aS0],iWl 4 (.alloc [.zf]),.w .none none (.store 1 aT4 aS0)] (iSr [.s (.load aT4),.s (.fn 185 (.of 185) [aT4]),iCa 184 [aS1,aS0],iQm 3 0] .ret)))
def F95.res:List RV:=[.t (.of 3)]
def F95:Fn:={ params:=[(.of 0),(.of 1)],res:=F95.res,body:=F95.b0,init:=in5 }
theorem F95.ok:fnA Tryz.prog Tryz.f95 [0,1,2,4,5]=some F95:=by kernel_rfl
abbrev F96.fr:=fr2
def F96.t0:IR:=.reg [iWl 1 (.alloc [(I 0),.zf,(I 0),.zf])]
def F96.t1:IR:=.reg [iSm 0,iCa 187 [aS0],iCa 186 [aS0],.w .none none (.store 4 aT1 aS0)]
def F96.t3:IR:=.seq F96.t0 (.seq F96.t1 .ret)
def F96.b0:IR:=F96.t3
def F96.res:List RV:=[.cell (.of 1) (some 4)]
def F96:Fn:={ params:=[(.of 0)],res:=F96.res,body:=F96.b0,init:=in2 }
theorem F96.ok:fnA Tryz.prog Tryz.f96 [0,2]=some F96:=by kernel_rfl
abbrev F97.fr:=fr4
def F97.b0:IR:=(iSr [iWl 1 (.box aT0),iQo 2 (.mv (.c (.str [])))] (.seq (iSr [.s (.zk 4 aT1),iWl 3 (.call (.c (.fn 122 (.of 122) [])) [aS0])] (.cond aT3 (iSr [.s (.zu 0 aT1),.s (.zk 2 aS0),iCa 188 [aS0],iQm 2 0] .ret) .skip)) (.seq (.jd [] [(.s (.zu 0 aT1),0,[]),(.s (.zk 2 aS0),0,[]),(.s (.zu 2 aT1),1,[]),(.s (.zk 2 aS0),1,[]),(iCa 188 [aS2],0,[]),(.s (.bin .add .str aS0 (.c (.str [47]))),1,[]),(iCa 188 [aS2],0,[]),(.s (.bin .add .str aS1 aS0),0,[]),(iQm 2 0,0,[])]) .ret)))
def F97.res:List RV:=[.t (.of 2)]
def F97:Fn:={ params:=[(.of 0)],res:=F97.res,body:=F97.b0,init:=in4 }
theorem F97.ok:fnA Tryz.prog Tryz.f97 [0,1,2,4]=some F97:=by kernel_rfl
abbrev gm.fr:=fr9
def gm.t0:IR:=.reg [iQo 2 (.mv (.c .zf))]
def gm.t1:IR:=.reg [iSm 0,iCa 105 [aS0],iQm 3 0]
def gm.t2:IR:=.reg [iQo 5 (.mv aT1),iQo 6 (.len aT5),iQo 7 (.mv aC0)]
def gm.t3:IR:=.reg [iQo 8 (.bin .lss .int aT7 aT6)]
def gm.t5:IR:=.reg [.s (.zx 1 aT5 aT7),.s (.load aS0),iQm 4 0]
def gm.t6:IR:=.reg [iSm 3,iSm 4,iCa 96 [aC1],.s (.zx 4 aS2 aS1),.w .none none (.store 4 aS0 aS1)]
def gm.t9:IR:=.reg [.s (.bin .add .int aT7 aC1),iQm 7 0]
def gm.t12:IR:=.seq gm.t3 (.seq (.cond aT8 .skip (.exit 0)) (.seq (.block 1 (.seq gm.t5 gm.t6)) gm.t9))
def gm.t13:IR:=.loop gm.t12
def gm.t16:IR:=.reg [iSm 3,iQm 2 0]
def gm.t20:IR:=.seq gm.t0 (.seq gm.t1 (.seq (.seq gm.t2 (.block 0 gm.t13)) (.seq gm.t16 .ret)))
def gm.b0:IR:=gm.t20
def gm.res:List RV:=[.t (.of 2)]
def gm:Fn:={ params:=[(.of 0),(.of 1)],res:=gm.res,body:=gm.b0,init:=in9 }
theorem gm.ok:fnA Tryz.prog Tryz.f104 [0,1,4,5,7,10,11,12,13]=some gm:=by kernel_rfl
abbrev gq.fr:=fr7
def gq.t0:IR:=.reg [iQo 1 (.mv (.c .zf))]
def gq.t1:IR:=.reg [iSm 0,.w .push none (.bg 4 64 [(I 0),.zf,(I 0),.zf] aS0 aS0),iQm 2 0]
def gq.t2:IR:=.reg [iSm 2,iQo 4 (.len aS0),iQo 5 (.mv aC0)]
def gq.t3:IR:=.reg [iQo 6 (.bin .lss .int aT5 aT4)]
def gq.t5:IR:=.reg [iSm 5,iQm 3 0]
def gq.t6:IR:=.reg [iSm 2,iSm 3,iCa 96 [aC0],.s (.zx 4 aS2 aS1),.w .none none (.store 4 aS0 aS1)]
def gq.t9:IR:=.reg [.s (.bin .add .int aT5 aC1),iQm 5 0]
def gq.t12:IR:=.seq gq.t3 (.seq (.cond aT6 .skip (.exit 0)) (.seq (.block 1 (.seq gq.t5 gq.t6)) gq.t9))
def gq.t13:IR:=.loop gq.t12
def gq.t16:IR:=.reg [iSm 2,iQm 1 0]
def gq.t20:IR:=.seq gq.t0 (.seq gq.t1 (.seq (.seq gq.t2 (.block 0 gq.t13)) (.seq gq.t16 .ret)))
def gq.b0:IR:=gq.t20
def gq.res:List RV:=[.t (.of 1)]
def gq:Fn:={ params:=[(.of 0)],res:=gq.res,body:=gq.b0,init:=in7 }
theorem gq.ok:fnA Tryz.prog Tryz.f105 [0,2,3,4,8,9,10]=some gq:=by kernel_rfl
abbrev gy.fr:=fr11
def gy.t0:IR:=.reg [iWl 3 (.box aT1)]
def gy.t1:IR:=.reg [iQo 6 (.mv aT2),iQo 7 (.len aT6),iQo 8 (.mv aC0)]
def gy.t2:IR:=.reg [iQo 9 (.bin .lss .int aT8 aT7)]
def gy.t4:IR:=.reg [iSm 8,.s (.zx 4 aT6 aT8),.s (.zk 4 aS0),iWl 5 (.alloc [(I 0),.zf,(I 0),.zf]),iQm 4 2,.w .none none (.store 4 aT5 aS0)]
def gy.t5:IR:=.reg [.s (.zk 4 aT5),iCa 110 [aS0],iQo 10 (.bin .neq .int aS0 aC0)]
def gy.t6:IR:=.jd [] [(iSm 0,2,[]),(iSm 4,2,[]),(iSm 0,1,[]),(iSm 4,1,[]),(.s (.zx 4 aS1 aS0),1,[]),(.s (.zk 4 aS0),1,[]),(.s (.zk 4 aT3),0,[]),(.s (.zk 4 aT5),0,[]),(iCa 119 [aS1,aS0],0,[]),(iCa 192 [aS3,aS0],0,[]),(.s (.zx 4 aS9 aS8),0,[]),(.w .none none (.store 4 aS0 aS1),0,[])]
def gy.t11:IR:=.reg [.s (.bin .add .int aT8 aC1),iQm 8 0]
def gy.t14:IR:=.seq gy.t2 (.seq (.cond aT9 .skip (.exit 0)) (.seq (.block 1 (.seq gy.t4 (.seq gy.t5 (.cond nV gy.t6 .skip)))) gy.t11))
def gy.t15:IR:=.loop gy.t14
def gy.t18:IR:=.seq gy.t0 (.seq gy.t1 (.block 0 gy.t15))
def gy.b0:IR:=gy.t18
def gy.res:List RV:=[]
def gy:Fn:={ params:=[(.of 0),(.of 1),(.of 2)],res:=gy.res,body:=gy.b0,init:=in11 }
theorem gy.ok:fnA Tryz.prog Tryz.f106 [0,1,2,4,6,7,8,9,10,11,17]=some gy:=by kernel_rfl
abbrev bZ.fr:=fr3
def bZ.t0:IR:=.reg [iWl 1 (.box aT0),iWl 2 (.alloc [(I 0),.zf,(I 0),.zf])]
def bZ.t1:IR:=.jd [] [(.s (.zu 0 aT1),0,[]),(.s (.zk 2 aS0),0,[]),(.s (.zu 2 aT1),1,[]),(.s (.zk 2 aS0),1,[]),(iCa 193 [aS2],0,[]),(.s (.build [(I 0),.zf,(I 0),.zf] [(0,2,aS0),(2,2,aS1)]),0,[]),(.w .none none (.store 4 aT2 aS0),0,[])]
def bZ.t3:IR:=.seq bZ.t0 (.seq bZ.t1 .ret)
def bZ.b0:IR:=bZ.t3
def bZ.res:List RV:=[.cell (.of 2) (some 4)]
def bZ:Fn:={ params:=[(.of 0)],res:=bZ.res,body:=bZ.b0,init:=in3 }
theorem bZ.ok:fnA Tryz.prog Tryz.f107 [0,1,2]=some bZ:=by kernel_rfl
abbrev F108.fr:=fr8
def F108.b0:IR:=(iSr [iQo 2 (.mv aC0)] (.seq (iSr [iSm 0,iQo 4 (.len aS0),iQo 5 (.mv aC0)] (.block 0 (.loop (iSr [iQo 6 (.bin .lss .int aT5 aT4)] (.seq (.cond aT6 .skip (.exit 0)) (.seq (.block 1 (iSr [iSm 5,iQm 3 0] (iSr [iSm 1,iSm 0,iSm 3,.s (.zx 4 aS1 aS0),.s (.zk 4 aS0),iWl 7 (.call aS4 [aS0])] (.cond aT7 (iSr [iSm 3,iQm 2 0] .ret) .skip)))) (.reg [.s (.bin .add .int aT5 aC1),iQm 5 0]))))))) (iSr [iQo 2 (.mv (.c (I (-1))))] .ret)))
def F108.res:List RV:=[.t (.of 2)]
def F108:Fn:={ params:=[(.of 0),(.of 1)],res:=F108.res,body:=F108.b0,init:=in8 }
theorem F108.ok:fnA Tryz.prog Tryz.f108 [0,1,4,5,7,8,9,16]=some F108:=by kernel_rfl
end
end Go.Ev
