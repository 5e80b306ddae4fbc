import Derived.Test.YtdclaaahnodljaaGreatDoorEvC
import Derived.Test.YtdclaaahnodljaaGreatDoorProg
import Derived.KernelRfl
set_option linter.unusedSimpArgs false
set_option linter.unusedVariables false
namespace Go.Ev
open Go Go.Proofs
set_option maxRecDepth 100000
noncomputable section
abbrev zU:List AV:=[(.int .u8 0),(.int .u8 0),(.int .u8 0),(.int .u8 0),(.int .u8 0),(.int .u8 0),(.int .u8 0),(.int .u8 0),(.int .u8 0),(.int .u8 0),(.int .u8 0),(.int .u8 0),(.int .u8 0),(.int .u8 0),(.int .u8 0),(.int .u8 0),(.int .u8 0),(.int .u8 0),(.int .u8 0),(.int .u8 0),(.int .u8 0),(.int .u8 0),(.int .u8 0),(.int .u8 0),(.int .u8 0),(.int .u8 0),(.int .u8 0),(.int .u8 0),(.int .u8 0),(.int .u8 0),(.int .u8 0),(.int .u8 0),(.int .u8 0),(.int .u8 0),(.int .u8 0),(.int .u8 0),(.int .u8 0),(.int .u8 0),(.int .u8 0),(.int .u8 0),(.int .u8 0),(.int .u8 0),(.int .u8 0),(.int .u8 0),(.int .u8 0),(.int .u8 0),(.int .u8 0),(.int .u8 0),(.int .u8 0),(.int .u8 0),(.int .u8 0),(.int .u8 0),(.int .u8 0),(.int .u8 0),(.int .u8 0),(.int .u8 0),(.int .u8 0),(.int .u8 0),(.int .u8 0),(.int .u8 0),(.int .u8 0),(.int .u8 0),(.int .u8 0),(.int .u8 0),(.int .u8 0),(.int .u8 0),(.int .u8 0),(.int .u8 0),(.int .u8 0),(.int .u8 0),(.int .u8 0),(.int .u8 0),(.int .u8 0),(.int .u8 0),(.int .u8 0),(.int .u8 0),(.int .u8 0),(.int .u8 0),(.int .u8 0),(.int .u8 0),(.int .u8 0),(.int .u8 0),(.int .u8 0),(.int .u8 0),(.int .u8 0),(.int .u8 0),(.int .u8 0),(.int .u8 0),(.int .u8 0),(.int .u8 0),(.int .u8 0),(.int .u8 0),(.int .u8 0),(.int .u8 0),(.int .u8 0),(.int .u8 0),(.int .u8 0),(.int .u8 0),(.int .u8 0),(.int .u8 0),(.int .u8 0),(.int .u8 0),(.int .u8 0),(.int .u8 0),(.int .u8 0),(.int .u8 0),(.int .u8 0),(.int .u8 0),(.int .u8 0),(.int .u8 0),(.int .u8 0),(.int .u8 0),(.int .u8 0),(.int .u8 0),(.int .u8 0),(.int .u8 0),(.int .u8 0),(.int .u8 0),(.int .u8 0),(.int .u8 0),(.int .u8 0),(.int .u8 0),(.int .u8 0),(.int .u8 0),(.int .u8 0),(.int .u8 0),(.int .u8 0),(.int .u8 0)]
abbrev iSm (n:Nat):RO:=.s (.mv (.t (.of n)))
abbrev iQm (n m:Nat):RO:=.q (.of n) (.mv (.s m))
abbrev iQo (n:Nat) (o:PO):RO:=.q (.of n) o
abbrev iPf (n:Nat) (o:PO):RO:=.p .push (some (.s n,false)) o
abbrev iPt (n:Nat) (o:PO):RO:=.p .push (some (.s n,true)) o
abbrev iCa (n:Nat) (l:List Arg):RO:=.w .push none (.call (.c (.fn n (.of n) [])) l)
abbrev iWl (n:Nat) (o:WO):RO:=.w (.loc (.of n)) none o
abbrev iSr (l:List RO) (c:IR):IR:=.seq (.reg l) c
def fr1 (x0:AV):T AV:=(.n .e x0 .e)
def fr2 (x0 x1:AV):T AV:=(.n (.n .e x1 .e) x0 .e)
def fr3 (x0 x1 x2:AV):T AV:=(.n (.n .e x1 .e) x0 (.n .e x2 .e))
def fr4 (x0 x1 x2 x3:AV):T AV:=(.n (.n (.n .e x3 .e) x1 .e) x0 (.n .e x2 .e))
def fr5 (x0 x1 x2 x3 x4:AV):T AV:=(.n (.n (.n .e x3 .e) x1 .e) x0 (.n (.n .e x4 .e) x2 .e))
def fr6 (x0 x1 x2 x3 x4 x5:AV):T AV:=(.n (.n (.n .e x3 .e) x1 (.n .e x5 .e)) x0 (.n (.n .e x4 .e) x2 .e))
def fr7 (x0 x1 x2 x3 x4 x5 x6:AV):T AV:=(.n (.n (.n .e x3 .e) x1 (.n .e x5 .e)) x0 (.n (.n .e x4 .e) x2 (.n .e x6 .e)))
def fr8 (x0 x1 x2 x3 x4 x5 x6 x7:AV):T AV:=(.n (.n (.n (.n .e x7 .e) x3 .e) x1 (.n .e x5 .e)) x0 (.n (.n .e x4 .e) x2 (.n .e x6 .e)))
def fr9 (x0 x1 x2 x3 x4 x5 x6 x7 x8:AV):T AV:=(.n (.n (.n (.n .e x7 .e) x3 .e) x1 (.n .e x5 .e)) x0 (.n (.n (.n .e x8 .e) x4 .e) x2 (.n .e x6 .e)))
def fr10 (x0 x1 x2 x3 x4 x5 x6 x7 x8 x9:AV):T AV:=(.n (.n (.n (.n .e x7 .e) x3 .e) x1 (.n (.n .e x9 .e) x5 .e)) x0 (.n (.n (.n .e x8 .e) x4 .e) x2 (.n .e x6 .e)))
def fr11 (x0 x1 x2 x3 x4 x5 x6 x7 x8 x9 x10:AV):T AV:=(.n (.n (.n (.n .e x7 .e) x3 .e) x1 (.n (.n .e x9 .e) x5 .e)) x0 (.n (.n (.n .e x8 .e) x4 .e) x2 (.n (.n .e x10 .e) x6 .e)))
def fr12 (x0 x1 x2 x3 x4 x5 x6 x7 x8 x9 x10 x11:AV):T AV:=(.n (.n (.n (.n .e x7 .e) x3 (.n .e x11 .e)) x1 (.n (.n .e x9 .e) x5 .e)) x0 (.n (.n (.n .e x8 .e) x4 .e) x2 (.n (.n .e x10 .e) x6 .e)))
def fr13 (x0 x1 x2 x3 x4 x5 x6 x7 x8 x9 x10 x11 x12:AV):T AV:=(.n (.n (.n (.n .e x7 .e) x3 (.n .e x11 .e)) x1 (.n (.n .e x9 .e) x5 .e)) x0 (.n (.n (.n .e x8 .e) x4 (.n .e x12 .e)) x2 (.n (.n .e x10 .e) x6 .e)))
def fr14 (x0 x1 x2 x3 x4 x5 x6 x7 x8 x9 x10 x11 x12 x13:AV):T AV:=(.n (.n (.n (.n .e x7 .e) x3 (.n .e x11 .e)) x1 (.n (.n .e x9 .e) x5 (.n .e x13 .e))) x0 (.n (.n (.n .e x8 .e) x4 (.n .e x12 .e)) x2 (.n (.n .e x10 .e) x6 .e)))
def fr15 (x0 x1 x2 x3 x4 x5 x6 x7 x8 x9 x10 x11 x12 x13 x14:AV):T AV:=(.n (.n (.n (.n .e x7 .e) x3 (.n .e x11 .e)) x1 (.n (.n .e x9 .e) x5 (.n .e x13 .e))) x0 (.n (.n (.n .e x8 .e) x4 (.n .e x12 .e)) x2 (.n (.n .e x10 .e) x6 (.n .e x14 .e))))
def fr17 (x0 x1 x2 x3 x4 x5 x6 x7 x8 x9 x10 x11 x12 x13 x14 x15 x16:AV):T AV:=(.n (.n (.n (.n (.n .e x15 .e) x7 .e) x3 (.n .e x11 .e)) x1 (.n (.n .e x9 .e) x5 (.n .e x13 .e))) x0 (.n (.n (.n (.n .e x16 .e) x8 .e) x4 (.n .e x12 .e)) x2 (.n (.n .e x10 .e) x6 (.n .e x14 .e))))
def fr18 (x0 x1 x2 x3 x4 x5 x6 x7 x8 x9 x10 x11 x12 x13 x14 x15 x16 x17:AV):T AV:=(.n (.n (.n (.n (.n .e x15 .e) x7 .e) x3 (.n .e x11 .e)) x1 (.n (.n (.n .e x17 .e) x9 .e) x5 (.n .e x13 .e))) x0 (.n (.n (.n (.n .e x16 .e) x8 .e) x4 (.n .e x12 .e)) x2 (.n (.n .e x10 .e) x6 (.n .e x14 .e))))
def fr19 (x0 x1 x2 x3 x4 x5 x6 x7 x8 x9 x10 x11 x12 x13 x14 x15 x16 x17 x18:AV):T AV:=(.n (.n (.n (.n (.n .e x15 .e) x7 .e) x3 (.n .e x11 .e)) x1 (.n (.n (.n .e x17 .e) x9 .e) x5 (.n .e x13 .e))) x0 (.n (.n (.n (.n .e x16 .e) x8 .e) x4 (.n .e x12 .e)) x2 (.n (.n (.n .e x18 .e) x10 .e) x6 (.n .e x14 .e))))
def fr20 (x0 x1 x2 x3 x4 x5 x6 x7 x8 x9 x10 x11 x12 x13 x14 x15 x16 x17 x18 x19:AV):T AV:=(.n (.n (.n (.n (.n .e x15 .e) x7 .e) x3 (.n (.n .e x19 .e) x11 .e)) x1 (.n (.n (.n .e x17 .e) x9 .e) x5 (.n .e x13 .e))) x0 (.n (.n (.n (.n .e x16 .e) x8 .e) x4 (.n .e x12 .e)) x2 (.n (.n (.n .e x18 .e) x10 .e) x6 (.n .e x14 .e))))
def fr23 (x0 x1 x2 x3 x4 x5 x6 x7 x8 x9 x10 x11 x12 x13 x14 x15 x16 x17 x18 x19 x20 x21 x22:AV):T AV:=(.n (.n (.n (.n (.n .e x15 .e) x7 .e) x3 (.n (.n .e x19 .e) x11 .e)) x1 (.n (.n (.n .e x17 .e) x9 .e) x5 (.n (.n .e x21 .e) x13 .e))) x0 (.n (.n (.n (.n .e x16 .e) x8 .e) x4 (.n (.n .e x20 .e) x12 .e)) x2 (.n (.n (.n .e x18 .e) x10 .e) x6 (.n (.n .e x22 .e) x14 .e))))
def fr24 (x0 x1 x2 x3 x4 x5 x6 x7 x8 x9 x10 x11 x12 x13 x14 x15 x16 x17 x18 x19 x20 x21 x22 x23:AV):T AV:=(.n (.n (.n (.n (.n .e x15 .e) x7 (.n .e x23 .e)) x3 (.n (.n .e x19 .e) x11 .e)) x1 (.n (.n (.n .e x17 .e) x9 .e) x5 (.n (.n .e x21 .e) x13 .e))) x0 (.n (.n (.n (.n .e x16 .e) x8 .e) x4 (.n (.n .e x20 .e) x12 .e)) x2 (.n (.n (.n .e x18 .e) x10 .e) x6 (.n (.n .e x22 .e) x14 .e))))
def fr25 (x0 x1 x2 x3 x4 x5 x6 x7 x8 x9 x10 x11 x12 x13 x14 x15 x16 x17 x18 x19 x20 x21 x22 x23 x24:AV):T AV:=(.n (.n (.n (.n (.n .e x15 .e) x7 (.n .e x23 .e)) x3 (.n (.n .e x19 .e) x11 .e)) x1 (.n (.n (.n .e x17 .e) x9 .e) x5 (.n (.n .e x21 .e) x13 .e))) x0 (.n (.n (.n (.n .e x16 .e) x8 (.n .e x24 .e)) x4 (.n (.n .e x20 .e) x12 .e)) x2 (.n (.n (.n .e x18 .e) x10 .e) x6 (.n (.n .e x22 .e) x14 .e))))
def fr26 (x0 x1 x2 x3 x4 x5 x6 x7 x8 x9 x10 x11 x12 x13 x14 x15 x16 x17 x18 x19 x20 x21 x22 x23 x24 x25:AV):T AV:=(.n (.n (.n (.n (.n .e x15 .e) x7 (.n .e x23 .e)) x3 (.n (.n .e x19 .e) x11 .e)) x1 (.n (.n (.n .e x17 .e) x9 (.n .e x25 .e)) x5 (.n (.n .e x21 .e) x13 .e))) x0 (.n (.n (.n (.n .e x16 .e) x8 (.n .e x24 .e)) x4 (.n (.n .e x20 .e) x12 .e)) x2 (.n (.n (.n .e x18 .e) x10 .e) x6 (.n (.n .e x22 .e) x14 .e))))
def fr27 (x0 x1 x2 x3 x4 x5 x6 x7 x8 x9 x10 x11 x12 x13 x14 x15 x16 x17 x18 x19 x20 x21 x22 x23 x24 x25 x26:AV):T AV:=(.n (.n (.n (.n (.n .e x15 .e) x7 (.n .e x23 .e)) x3 (.n (.n .e x19 .e) x11 .e)) x1 (.n (.n (.n .e x17 .e) x9 (.n .e x25 .e)) x5 (.n (.n .e x21 .e) x13 .e))) x0 (.n (.n (.n (.n .e x16 .e) x8 (.n .e x24 .e)) x4 (.n (.n .e x20 .e) x12 .e)) x2 (.n (.n (.n .e x18 .e) x10 (.n .e x26 .e)) x6 (.n (.n .e x22 .e) x14 .e))))
def fr31 (x0 x1 x2 x3 x4 x5 x6 x7 x8 x9 x10 x11 x12 x13 x14 x15 x16 x17 x18 x19 x20 x21 x22 x23 x24 x25 x26 x27 x28 x29 x30:AV):T AV:=(.n (.n (.n (.n (.n .e x15 .e) x7 (.n .e x23 .e)) x3 (.n (.n .e x19 .e) x11 (.n .e x27 .e))) x1 (.n (.n (.n .e x17 .e) x9 (.n .e x25 .e)) x5 (.n (.n .e x21 .e) x13 (.n .e x29 .e)))) x0 (.n (.n (.n (.n .e x16 .e) x8 (.n .e x24 .e)) x4 (.n (.n .e x20 .e) x12 (.n .e x28 .e))) x2 (.n (.n (.n .e x18 .e) x10 (.n .e x26 .e)) x6 (.n (.n .e x22 .e) x14 (.n .e x30 .e)))))
abbrev in1:T AV:=fr1 .undef
abbrev in2:T AV:=fr2 .undef .undef
abbrev in3:T AV:=fr3 .undef .undef .undef
abbrev in4:T AV:=fr4 .undef .undef .undef .undef
abbrev in5:T AV:=fr5 .undef .undef .undef .undef .undef
abbrev in6:T AV:=fr6 .undef .undef .undef .undef .undef .undef
abbrev in7:T AV:=fr7 .undef .undef .undef .undef .undef .undef .undef
abbrev in8:T AV:=fr8 .undef .undef .undef .undef .undef .undef .undef .undef
abbrev in9:T AV:=fr9 .undef .undef .undef .undef .undef .undef .undef .undef .undef
abbrev in10:T AV:=fr10 .undef .undef .undef .undef .undef .undef .undef .undef .undef .undef
abbrev in11:T AV:=fr11 .undef .undef .undef .undef .undef .undef .undef .undef .undef .undef .undef
abbrev in12:T AV:=fr12 .undef .undef .undef .undef .undef .undef .undef .undef .undef .undef .undef .undef
abbrev in13:T AV:=fr13 .undef .undef .undef .undef .undef .undef .undef .undef .undef .undef .undef .undef .undef
abbrev in14:T AV:=fr14 .undef .undef .undef .undef .undef .undef .undef .undef .undef .undef .undef .undef .undef .undef
abbrev in15:T AV:=fr15 .undef .undef .undef .undef .undef .undef .undef .undef .undef .undef .undef .undef .undef .undef .undef
abbrev in17:T AV:=fr17 .undef .undef .undef .undef .undef .undef .undef .undef .undef .undef .undef .undef .undef .undef .undef .undef .undef
abbrev in18:T AV:=fr18 .undef .undef .undef .undef .undef .undef .undef .undef .undef .undef .undef .undef .undef .undef .undef .undef .undef .undef
abbrev in19:T AV:=fr19 .undef .undef .undef .undef .undef .undef .undef .undef .undef .undef .undef .undef .undef .undef .undef .undef .undef .undef .undef
abbrev in20:T AV:=fr20 .undef .undef .undef .undef .undef .undef .undef .undef .undef .undef .undef .undef .undef .undef .undef .undef .undef .undef .undef .undef
abbrev in23:T AV:=fr23 .undef .undef .undef .undef .undef .undef .undef .undef .undef .undef .undef .undef .undef .undef .undef .undef .undef .undef .undef .undef .undef .undef .undef
abbrev in24:T AV:=fr24 .undef .undef .undef .undef .undef .undef .undef .undef .undef .undef .undef .undef .undef .undef .undef .undef .undef .undef .undef .undef .undef .undef .undef .undef
abbrev in25:T AV:=fr25 .undef .undef .undef .undef .undef .undef .undef .undef .undef .undef .undef .undef .undef .undef .undef .undef .undef .undef .undef .undef .undef .undef .undef .undef .undef
abbrev in26:T AV:=fr26 .undef .undef .undef .undef .undef .undef .undef .undef .undef .undef .undef .undef .undef .undef .undef .undef .undef .undef .undef .undef .undef .undef .undef .undef .undef .undef
abbrev in27:T AV:=fr27 .undef .undef .undef .undef .undef .undef .undef .undef .undef .undef .undef .undef .undef .undef .undef .undef .undef .undef .undef .undef .undef .undef .undef .undef .undef .undef .undef
abbrev in31:T AV:=fr31 .undef .undef .undef .undef .undef .undef .undef .undef .undef .undef .undef .undef .undef .undef .undef .undef .undef .undef .undef .undef .undef .undef .undef .undef .undef .undef .undef .undef .undef .undef .undef
abbrev aT0:Arg:=.t (.of 0)
abbrev aT1:Arg:=.t (.of 1)
abbrev aT2:Arg:=.t (.of 2)
abbrev aT3:Arg:=.t (.of 3)
abbrev aT4:Arg:=.t (.of 4)
abbrev aT5:Arg:=.t (.of 5)
abbrev aT6:Arg:=.t (.of 6)
abbrev aT7:Arg:=.t (.of 7)
abbrev aT8:Arg:=.t (.of 8)
abbrev aT9:Arg:=.t (.of 9)
abbrev bP:Arg:=.t (.of 10)
abbrev rV:Arg:=.t (.of 11)
abbrev eX:Arg:=.t (.of 12)
abbrev rD:Arg:=.t (.of 13)
abbrev tJ:Arg:=.t (.of 14)
abbrev oO:Arg:=.t (.of 15)
abbrev aW:Arg:=.t (.of 16)
abbrev aC:Arg:=.t (.of 17)
abbrev aT18:Arg:=.t (.of 18)
abbrev tK:Arg:=.t (.of 19)
abbrev aT20:Arg:=.t (.of 20)
abbrev aT21:Arg:=.t (.of 21)
abbrev aT22:Arg:=.t (.of 22)
abbrev aT23:Arg:=.t (.of 23)
abbrev aT24:Arg:=.t (.of 24)
abbrev aT25:Arg:=.t (.of 25)
abbrev aT26:Arg:=.t (.of 26)
abbrev aT27:Arg:=.t (.of 27)
abbrev aT28:Arg:=.t (.of 28)
abbrev aT29:Arg:=.t (.of 29)
abbrev aT30:Arg:=.t (.of 30)
abbrev aS0:Arg:=.s 0
abbrev aS1:Arg:=.s 1
abbrev aS2:Arg:=.s 2
abbrev aS3:Arg:=.s 3
abbrev aS4:Arg:=.s 4
abbrev aS5:Arg:=.s 5
abbrev aS6:Arg:=.s 6
abbrev aS7:Arg:=.s 7
abbrev aS8:Arg:=.s 8
abbrev aS9:Arg:=.s 9
abbrev aS10:Arg:=.s 10
abbrev aS11:Arg:=.s 11
abbrev aS12:Arg:=.s 12
abbrev aS13:Arg:=.s 13
abbrev aS16:Arg:=.s 16
abbrev aC0:Arg:=.c (I 0)
abbrev aC1:Arg:=.c (I 1)
abbrev aC2:Arg:=.c (I 2)
abbrev aC3:Arg:=.c (I 3)
abbrev aC4:Arg:=.c (I 4)
abbrev aC5:Arg:=.c (I 5)
abbrev aC7:Arg:=.c (I 7)
abbrev aC8:Arg:=.c (I 8)
abbrev aC9:Arg:=.c (I 9)
abbrev aC10:Arg:=.c (I 10)
abbrev aC11:Arg:=.c (I 11)
abbrev aC12:Arg:=.c (I 12)
abbrev aC14:Arg:=.c (I 14)
abbrev aC16:Arg:=.c (I 16)
abbrev aC18:Arg:=.c (I 18)
abbrev aC20:Arg:=.c (I 20)
abbrev aC24:Arg:=.c (I 24)
abbrev aC28:Arg:=.c (I 28)
abbrev aC32:Arg:=.c (I 32)
abbrev aC64:Arg:=.c (I 64)
abbrev zvu:Arg:=.c (I 100)
abbrev zvv:Arg:=.c (I 128)
abbrev zcf:Arg:=.c (I 256)
abbrev zvw:Arg:=.c (I 600)
abbrev zni:Arg:=.c (I 1024)
abbrev zhn:Arg:=.c (I 1536)
abbrev zs5:Arg:=.c (I 1800)
abbrev qX:Arg:=.c (I 999999999)
abbrev pQ:Arg:=.c (I 1000000000)
abbrev F6.fr:=fr17
def F6.b7:IR:=(iSr [.s (.zo 2 rV rD),.s (.zi 2 aS0),iWl 3 (.alloc [.zf,(.bool false)]),.w .none none (.store 2 aT3 aS0)] (iSr [.s (.zn 1 aT3),iQo 15 (.load aS0)] (.cond oO (iSr [iCa 8 [],iQm 2 0] .ret) .skip)))
def F6.g6 (X7:IR):IR:=(.block 1 X7)
def F6.b6:IR:=F6.g6 F6.b7
def F6.b8:IR:=(.reg [.s (.bin .add .int rD aC1),iQm 13 0])
def F6.g5 (X6 X8:IR):IR:=(.seq X6 X8)
def F6.b5:IR:=F6.g5 F6.b6 F6.b8
def F6.g4 (X5:IR):IR:=(iSr [iQo 14 (.bin .lss .int rD eX)] (.seq (.cond tJ .skip (.exit 0)) X5))
def F6.b4:IR:=F6.g4 F6.b5
def F6.g3 (X4:IR):IR:=(.loop X4)
def F6.b3:IR:=F6.g3 F6.b4
def F6.g2 (X3:IR):IR:=(.block 0 X3)
def F6.b2:IR:=F6.g2 F6.b3
def F6.b10:IR:=(iSr [iSm 0,iSm 4,iSm 5,iCa 32 [aS2,aS1,aS0],.s (.mv aS0),.s (.ext 0 aS0),.s (.ext 1 aS1),iQm 6 1,iQm 7 0] (iSr [iSm 0,iSm 4,iSm 5,iCa 34 [(.c .zf),aS1,aS0],iCa 33 [aS3,aS0],.s (.mv aS0),.s (.ext 0 aS0),.s (.ext 1 aS1),iQm 8 1,iQm 9 0] (iSr [iSm 7,.s (.bin .eql .int aS0 aC0),.s (.mv aS0),iPt 0 (.mv aT9),iPt 1 (.bin .eql .int aS0 aC0),.s (.pick aS2 aS0 (.c (.bool false))),.s (.mv aS0),iPt 0 (.mv aT6),iPt 1 (.mv aT8),.w .push (some (aS2,true)) (.call (.c (.fn 35 (.of 35) [])) [aS0]),iPt 3 (.bin .eql .str aS2 aS0),.s (.pick aS4 aS0 (.c (.bool false))),.s (.mv aS0),.w .push (some (aS0,true)) (.call (.c (.fn 8 (.of 8) [])) []),.s (.pick aS1 aS0 (.c (.bool false))),iQm 2 0] .ret)))
def F6.g9 (X10:IR):IR:=(iSr [iSm 0,.s (.zo 2 aS0 aC0),.s (.zn 0 aS0),.s (.load aS0),.s (.len aS0),iSm 1,.s (.conv .i64 aS0),.s (.bin .rem .int aS0 aC3),.s (.bin .add .int aC1 aS0),iQm 4 4,iQm 5 0] (.seq (iSr [iSm 4,.s (.bin .eql .int aS0 aC5),.s (.mv aS0),iPt 0 (.mv aT5),iPt 1 (.bin .eql .int aS0 aC3),iQo 16 (.pick aS2 aS0 (.c (.bool false)))] (.cond aW (.reg [iQo 5 (.mv aC2)]) .skip)) X10))
def F6.b9:IR:=F6.g9 F6.b10
def F6.g1 (X2 X9:IR):IR:=(.seq (iSr [iQo 11 (.mv aT0),iQo 12 (.len rV),iQo 13 (.mv aC0)] X2) X9)
def F6.b1:IR:=F6.g1 F6.b2 F6.b9
def F6.g0 (X1:IR):IR:=(iSr [iQo 2 (.mv (.c (.bool false)))] (.seq (iSr [iSm 0,.s (.len aS0),.s (.bin .eql .int aS0 aC0),.s (.mv aS0),iPf 0 (.mv aT0),iPf 1 (.len aS0),iPf 2 (.bin .gtr .int aS0 aC24),.s (.pick aS3 (.c (.bool true)) aS0),.s (.mv aS0),iPf 0 (.mv aT0),iPf 1 (.zo 2 aS0 aC0),iPf 2 (.zn 0 aS0),iPf 3 (.load aS0),iPf 4 (.len aS0),iPf 5 (.bin .gtr .int aS0 aC5),.s (.pick aS6 (.c (.bool true)) aS0),.s (.mv aS0),iPf 0 (.mv aT0),iPf 1 (.mv aT0),iPf 2 (.zo 2 aS0 aC0),iPf 3 (.zn 0 aS0),iPf 4 (.load aS0),iPf 5 (.len aS0),.w .push (some (aS6,false)) (.call (.c (.fn 31 (.of 31) [])) [aS5,aS0]),iPf 7 (.bin .neq .int aS0 aC0),iQo 10 (.pick aS8 (.c (.bool true)) aS0)] (.cond bP (iSr [iCa 8 [],iQm 2 0] .ret) .skip)) X1))
def F6.b0:IR:=F6.g0 F6.b1
def F6.res:List RV:=[.t (.of 2)]
def F6:Fn:={ params:=[(.of 0),(.of 1)],res:=F6.res,body:=F6.b0,init:=in17 }
theorem F6.ok:fnA Tryz.prog Tryz.f6 [0,1,4,6,7,8,9,10,11,12,38,40,41,42,43,47,64]=some F6:=by kernel_rfl
abbrev F8.fr:=fr11
def F8.b0:IR:=(iSr [iQo 0 (.mv (.c (.bool false)))] (iSr [iCa 38 [],iCa 37 [aS0],.s (.mv aS0),.s (.ext 0 aS0),.s (.ext 1 aS1),iQm 1 1,iQm 2 0] (iSr [iCa 38 [],iCa 13 [aS0,aC5],.s (.mv aS0),.s (.ext 0 aS0),.s (.ext 1 aS1),iQm 3 1,iQm 4 0] (iSr [iSm 1,iSm 3,iCa 39 [aS1,aS0],.s (.mv aS0),.s (.ext 0 aS0),.s (.ext 1 aS1),iQm 5 1,iQm 6 0] (iSr [iSm 1,.w .push none (.yg 1 4 [(I 0)] [(0,1,aC3),(1,1,aC2),(2,1,aC4),(3,1,aC1)]),iCa 23 [aS1,aS0],.s (.mv aS0),.s (.ext 0 aS0),.s (.ext 1 aS1),iQm 7 1,iQm 8 0] (iSr [iCa 38 [],.w .push none (.yg 1 4 [(I 0)] [(0,1,aC3),(1,1,aC2),(2,1,aC4),(3,1,aC1)]),iCa 40 [aS1,aS0],.s (.mv aS0),.s (.ext 0 aS0),.s (.ext 1 aS1),iQm 9 1,iQm 10 0] (iSr [iSm 2,iSm 4,.s (.bin .add .int aS1 aS0),iSm 6,.s (.bin .add .int aS1 aS0),iSm 8,.s (.bin .add .int aS1 aS0),iSm 10,.s (.bin .add .int aS1 aS0),.s (.bin .eql .int aS0 aC0),.s (.mv aS0),iPt 0 (.mv aT1),iPt 1 (.len aS0),iPt 2 (.bin .eql .int aS0 aC8),.s (.pick aS3 aS0 (.c (.bool false))),.s (.mv aS0),iPt 0 (.mv aT3),iPt 1 (.len aS0),iPt 2 (.bin .eql .int aS0 aC8),.s (.pick aS3 aS0 (.c (.bool false))),.s (.mv aS0),iPt 0 (.mv aT5),iPt 1 (.len aS0),iPt 2 (.bin .eql .int aS0 aC1),.s (.pick aS3 aS0 (.c (.bool false))),.s (.mv aS0),iPt 0 (.mv aT5),iPt 1 (.zo 2 aS0 aC0),iPt 2 (.zn 1 aS0),iPt 3 (.load aS0),iPt 4 (.bin .eql .int aS0 aC8),.s (.pick aS5 aS0 (.c (.bool false))),.s (.mv aS0),iPt 0 (.mv aT7),.w .push (some (aS1,true)) (.yg 1 4 [(I 0)] [(0,1,aC1),(1,1,aC4),(2,1,aC2),(3,1,aC3)]),.w .push (some (aS2,true)) (.call (.c (.fn 24 (.of 24) [])) [aS1,aS0]),.s (.pick aS3 aS0 (.c (.bool false))),.s (.mv aS0),iPt 0 (.mv aT9),.s (.pick aS1 aS0 (.c (.bool false))),iQm 0 0] .ret)))))))
def F8.res:List RV:=[.t (.of 0)]
def F8:Fn:={ params:=[],res:=F8.res,body:=F8.b0,init:=in11 }
theorem F8.ok:fnA Tryz.prog Tryz.f8 [0,1,2,3,4,5,6,7,8,9,10]=some F8:=by kernel_rfl
abbrev F13.fr:=fr12
def F13.b4:IR:=(.reg [iQo 7 (.mv bP)])
def F13.b7:IR:=(.yh [] [(.s (.load aT6),2,[]),(iSm 7,0,[]),(iCa 48 [aS0],0,[]),(.w .push none (.yg 1 1 [.zf] [(0,1,aS0)]),0,[]),(.w .push none (.app 1 24 aS3 aS0),0,[]),(.w .none none (.store 1 aT6 aS0),0,[])])
def F13.g6 (X7:IR):IR:=(.seq (iSr [.s (.load aT6),.s (.len aS0),iQo 11 (.bin .eql .int aS0 zni)] (.cond rV (iSr [.w .none none (.store 1 aT3 (.c .zf)),.w .none none (.store 1 aT4 aC5)] .ret) .skip)) X7)
def F13.b6:IR:=F13.g6 F13.b7
def F13.g5 (X6:IR):IR:=(.block 1 X6)
def F13.b5:IR:=F13.g5 F13.b6
def F13.g3 (X4 X5:IR):IR:=(.rf aT9 [(.of 10)] X4 X5)
def F13.b3:IR:=F13.g3 F13.b4 F13.b5
def F13.g2 (X3:IR):IR:=(.block 0 X3)
def F13.b2:IR:=F13.g2 F13.b3
def F13.b8:IR:=(iSr [.s (.load aT6),.w .none none (.store 1 aT3 aS0),.w .none none (.store 1 aT4 aC0)] .ret)
def F13.g1 (X2 X8:IR):IR:=(iSr [iWl 6 (.alloc [.zf])] (.seq (iSr [.s (.zi 2 aT2),iSm 1,iWl 9 (.call (.c (.fn 47 (.of 47) [])) [aS1,aS0])] X2) X8))
def F13.b1:IR:=F13.g1 F13.b2 F13.b8
def F13.g0 (X1:IR):IR:=(iSr [iWl 2 (.box aT0),iWl 3 (.alloc [.zf]),iWl 4 (.alloc [(I 0)])] (.seq (iSr [.s (.zi 2 aT2),iCa 46 [aS0],iQm 5 0] (iSr [iSm 5,iQo 8 (.bin .neq .int aS0 aC0)] (.cond aT8 (iSr [iSm 5,.w .none none (.store 1 aT3 (.c .zf)),.w .none none (.store 1 aT4 aS0)] .ret) .skip))) X1))
def F13.b0:IR:=F13.g0 F13.b1
def F13.res:List RV:=[.cell (.of 3) none,.cell (.of 4) none]
def F13:Fn:={ params:=[(.of 0),(.of 1)],res:=F13.res,body:=F13.b0,init:=in12 }
theorem F13.ok:fnA Tryz.prog Tryz.f13 [0,1,2,4,5,6,7,8,12,16,17,20]=some F13:=by kernel_rfl
abbrev F23.fr:=fr7
def F23.b1:IR:=(iSr [iSm 4,.s (.zo 1 aS0 aC0),.s (.load aS0),iQm 2 0,iQo 3 (.mv aC0)] .ret)
def F23.g0 (X1:IR):IR:=(iSr [iQo 2 (.mv (.c .zf)),iQo 3 (.mv aC0)] (iSr [iSm 0,iSm 1,iCa 68 [aS1,aS0],.s (.mv aS0),.s (.ext 0 aS0),.s (.ext 1 aS1),iQm 4 1,iQm 5 0] (.seq (iSr [iSm 5,iQo 6 (.bin .neq .int aS0 aC0)] (.cond aT6 (iSr [iSm 5,iQo 2 (.mv (.c .zf)),iQm 3 0] .ret) .skip)) X1)))
def F23.b0:IR:=F23.g0 F23.b1
def F23.res:List RV:=[.t (.of 2),.t (.of 3)]
def F23:Fn:={ params:=[(.of 0),(.of 1)],res:=F23.res,body:=F23.b0,init:=in7 }
theorem F23.ok:fnA Tryz.prog Tryz.f23 [0,1,4,5,6,7,15]=some F23:=by kernel_rfl
abbrev F24.fr:=fr7
def F24.b7:IR:=(.seq (.yh [] [(iSm 0,0,[]),(iSm 3,0,[]),(.s (.zo 1 aS1 aS0),0,[]),(.s (.load aS0),0,[]),(iSm 1,0,[]),(iSm 3,0,[]),(.s (.zo 1 aS1 aS0),0,[]),(.s (.load aS0),0,[]),(iQo 6 (.bin .neq .int aS4 aS0),0,[])]) (.cond aT6 (iSr [iQo 2 (.mv (.c (.bool false)))] .ret) .skip))
def F24.g6 (X7:IR):IR:=(.block 1 X7)
def F24.b6:IR:=F24.g6 F24.b7
def F24.b8:IR:=(.reg [iSm 3,.s (.bin .add .int aS0 aC1),iQm 3 0])
def F24.g5 (X6 X8:IR):IR:=(.seq X6 X8)
def F24.b5:IR:=F24.g5 F24.b6 F24.b8
def F24.g4 (X5:IR):IR:=(.seq (iSr [iSm 3,iSm 0,.s (.len aS0),iQo 5 (.bin .lss .int aS2 aS0)] (.cond aT5 .skip (.exit 0))) X5)
def F24.b4:IR:=F24.g4 F24.b5
def F24.g3 (X4:IR):IR:=(.loop X4)
def F24.b3:IR:=F24.g3 F24.b4
def F24.g2 (X3:IR):IR:=(.block 0 X3)
def F24.b2:IR:=F24.g2 F24.b3
def F24.b9:IR:=(iSr [iQo 2 (.mv (.c (.bool true)))] .ret)
def F24.g1 (X2 X9:IR):IR:=(.seq (iSr [iQo 3 (.mv aC0)] X2) X9)
def F24.b1:IR:=F24.g1 F24.b2 F24.b9
def F24.g0 (X1:IR):IR:=(iSr [iQo 2 (.mv (.c (.bool false)))] (.seq (iSr [iSm 0,.s (.len aS0),iSm 1,.s (.len aS0),iQo 4 (.bin .neq .int aS2 aS0)] (.cond aT4 (iSr [iQo 2 (.mv (.c (.bool false)))] .ret) .skip)) X1))
def F24.b0:IR:=F24.g0 F24.b1
def F24.res:List RV:=[.t (.of 2)]
def F24:Fn:={ params:=[(.of 0),(.of 1)],res:=F24.res,body:=F24.b0,init:=in7 }
theorem F24.ok:fnA Tryz.prog Tryz.f24 [0,1,4,5,10,14,25]=some F24:=by kernel_rfl
abbrev F31.fr:=fr18
def F31.b9:IR:=(iSr [iSm 0,iSm 3,.s (.zo 2 aS1 aS0),.s (.zi 2 aS0),iSm 1,iCa 80 [aS1,aS0],iQm 4 0] (iSr [iSm 4,iQo 12 (.bin .neq .int aS0 aC0)] (.cond eX (iSr [iSm 4,iQm 2 0] .ret) .skip)))
def F31.g8 (X9:IR):IR:=(.block 1 X9)
def F31.b8:IR:=F31.g8 F31.b9
def F31.b10:IR:=(.reg [iSm 3,.s (.bin .add .int aS0 aC1),iQm 3 0])
def F31.g7 (X8 X10:IR):IR:=(.seq X8 X10)
def F31.b7:IR:=F31.g7 F31.b8 F31.b10
def F31.g6 (X7:IR):IR:=(.seq (iSr [iSm 3,iSm 0,.s (.len aS0),iQo 11 (.bin .lss .int aS2 aS0)] (.cond rV .skip (.exit 0))) X7)
def F31.b6:IR:=F31.g6 F31.b7
def F31.g5 (X6:IR):IR:=(.loop X6)
def F31.b5:IR:=F31.g5 F31.b6
def F31.g4 (X5:IR):IR:=(.block 0 X5)
def F31.b4:IR:=F31.g4 F31.b5
def F31.b17:IR:=(.seq (.yh [] [(iSm 0,0,[]),(iSm 5,0,[]),(.s (.bin .sub .int aS0 aC1),0,[]),(.s (.zo 2 aS2 aS0),0,[]),(.s (.zi 2 aS0),0,[]),(iSm 0,0,[]),(iSm 5,0,[]),(.s (.zo 2 aS1 aS0),0,[]),(.s (.zi 2 aS0),0,[]),(iCa 81 [aS4,aS0],0,[]),(iQo 14 (.not aS0),0,[])]) (.cond tJ (iSr [iQo 2 (.mv aC11)] .ret) .skip))
def F31.g16 (X17:IR):IR:=(.block 3 X17)
def F31.b16:IR:=F31.g16 F31.b17
def F31.b18:IR:=(.reg [iSm 5,.s (.bin .add .int aS0 aC1),iQm 5 0])
def F31.g15 (X16 X18:IR):IR:=(.seq X16 X18)
def F31.b15:IR:=F31.g15 F31.b16 F31.b18
def F31.g14 (X15:IR):IR:=(.seq (iSr [iSm 5,iSm 0,.s (.len aS0),iQo 13 (.bin .lss .int aS2 aS0)] (.cond rD .skip (.exit 2))) X15)
def F31.b14:IR:=F31.g14 F31.b15
def F31.g13 (X14:IR):IR:=(.loop X14)
def F31.b13:IR:=F31.g13 F31.b14
def F31.g12 (X13:IR):IR:=(.block 2 X13)
def F31.b12:IR:=F31.g12 F31.b13
def F31.b31:IR:=(.seq (.yh [] [(iSm 0,1,[]),(iSm 0,0,[]),(iSm 6,0,[]),(.s (.zo 2 aS1 aS0),0,[]),(.s (.zi 2 aS0),0,[]),(iSm 0,0,[]),(iSm 7,0,[]),(.s (.zo 2 aS1 aS0),0,[]),(.s (.zi 2 aS0),0,[]),(iCa 83 [aS4,aS0],0,[]),(iCa 82 [aS9,aS0],0,[]),(iQo 17 (.bin .lss .int aS0 aC0),0,[])]) (.cond aC (iSr [iQo 2 (.mv aC28)] .ret) .skip))
def F31.g30 (X31:IR):IR:=(.block 7 X31)
def F31.b30:IR:=F31.g30 F31.b31
def F31.b32:IR:=(.reg [iSm 7,.s (.bin .add .int aS0 aC1),iQm 7 0])
def F31.g29 (X30 X32:IR):IR:=(.seq X30 X32)
def F31.b29:IR:=F31.g29 F31.b30 F31.b32
def F31.g28 (X29:IR):IR:=(.seq (iSr [iSm 7,iSm 0,.s (.len aS0),iQo 16 (.bin .lss .int aS2 aS0)] (.cond aW .skip (.exit 6))) X29)
def F31.b28:IR:=F31.g28 F31.b29
def F31.g27 (X28:IR):IR:=(.loop X28)
def F31.b27:IR:=F31.g27 F31.b28
def F31.g26 (X27:IR):IR:=(.block 6 X27)
def F31.b26:IR:=F31.g26 F31.b27
def F31.g25 (X26:IR):IR:=(iSr [iQo 7 (.mv aC0)] X26)
def F31.b25:IR:=F31.g25 F31.b26
def F31.g24 (X25:IR):IR:=(.block 5 X25)
def F31.b24:IR:=F31.g24 F31.b25
def F31.b33:IR:=(.reg [iSm 6,.s (.bin .add .int aS0 aC1),iQm 6 0])
def F31.g23 (X24 X33:IR):IR:=(.seq X24 X33)
def F31.b23:IR:=F31.g23 F31.b24 F31.b33
def F31.g22 (X23:IR):IR:=(.seq (iSr [iSm 6,iSm 0,.s (.len aS0),iQo 15 (.bin .lss .int aS2 aS0)] (.cond oO .skip (.exit 4))) X23)
def F31.b22:IR:=F31.g22 F31.b23
def F31.g21 (X22:IR):IR:=(.loop X22)
def F31.b21:IR:=F31.g21 F31.b22
def F31.g20 (X21:IR):IR:=(.block 4 X21)
def F31.b20:IR:=F31.g20 F31.b21
def F31.b34:IR:=(iSr [iQo 2 (.mv aC0)] .ret)
def F31.g19 (X20 X34:IR):IR:=(.seq (iSr [iQo 6 (.mv aC0)] X20) X34)
def F31.b19:IR:=F31.g19 F31.b20 F31.b34
def F31.g11 (X12 X19:IR):IR:=(.seq (iSr [iQo 5 (.mv aC1)] X12) X19)
def F31.b11:IR:=F31.g11 F31.b12 F31.b19
def F31.g3 (X4 X11:IR):IR:=(.seq (iSr [iQo 3 (.mv aC0)] X4) X11)
def F31.b3:IR:=F31.g3 F31.b4 F31.b11
def F31.g2 (X3:IR):IR:=(.seq (iSr [iSm 0,.s (.len aS0),iQo 10 (.bin .gtr .int aS0 zhn)] (.cond bP (iSr [iQo 2 (.mv aC5)] .ret) .skip)) X3)
def F31.b2:IR:=F31.g2 F31.b3
def F31.g1 (X2:IR):IR:=(.seq (iSr [iSm 0,.s (.len aS0),iQo 9 (.bin .eql .int aS0 aC0)] (.cond aT9 (iSr [iQo 2 (.mv aC12)] .ret) .skip)) X2)
def F31.b1:IR:=F31.g1 F31.b2
def F31.g0 (X1:IR):IR:=(iSr [iQo 2 (.mv aC0)] (.seq (iSr [iSm 1,iCa 79 [aS0],iQo 8 (.bin .neq .int aS0 aC0)] (.cond aT8 (iSr [iQo 2 (.mv aC3)] .ret) .skip)) X1))
def F31.b0:IR:=F31.g0 F31.b1
def F31.res:List RV:=[.t (.of 2)]
def F31:Fn:={ params:=[(.of 0),(.of 1)],res:=F31.res,body:=F31.b0,init:=in18 }
theorem F31.ok:fnA Tryz.prog Tryz.f31 [0,1,4,5,6,7,8,9,12,15,18,22,32,37,50,54,60,74]=some F31:=by kernel_rfl
abbrev F32.fr:=fr15
def F32.b4:IR:=(.reg [iWl 8 (.alloc [.zf,(.bool false)]),.w .none none (.store 2 aT8 rD)])
def F32.b6:IR:=(.yh [] [(.s (.zi 2 aT7),1,[]),(.s (.zi 2 aT8),0,[]),(.s (.load aT3),0,[]),(iCa 88 [aS1,aS0],0,[]),(iCa 87 [aS3,aS0],0,[]),(.w .none none (.store 2 aT7 aS0),0,[])])
def F32.g5 (X6:IR):IR:=(.block 1 X6)
def F32.b5:IR:=F32.g5 F32.b6
def F32.g3 (X4 X5:IR):IR:=(.rf rV [(.of 12),(.of 13)] X4 X5)
def F32.b3:IR:=F32.g3 F32.b4 F32.b5
def F32.g2 (X3:IR):IR:=(.block 0 X3)
def F32.b2:IR:=F32.g2 F32.b3
def F32.b8:IR:=(iSr [.s (.zi 4 aT9),iCa 92 [aS0],iQm 4 0,iQo 5 (.mv aC0)] .ret)
def F32.g7 (X8:IR):IR:=(.seq (.yh [(.alloc [(I 0),.zf,(I 0),.zf])] [(.s (.zi 2 aT7),4,[]),(iSm 0,4,[]),(.s (.len aS0),4,[]),(iCa 85 [aS0],0,[]),(iCa 90 [aS3,aS0],0,[]),(iCa 89 [aS0],0,[]),(iWl 9 (.alloc [(I 0),.zf,(I 0),.zf]),0,[]),(.w .none none (.store 4 aT9 aS0),0,[])]) (.seq (iSr [.s (.zi 4 aT9),iWl 14 (.call (.c (.fn 91 (.of 91) [])) [aS0])] (.cond tJ (iSr [iQo 4 (.mv (.c (.str []))),iQo 5 (.mv aC4)] .ret) .skip)) X8))
def F32.b7:IR:=F32.g7 F32.b8
def F32.g1 (X2 X7:IR):IR:=(iSr [iCa 85 [aC0],iWl 7 (.alloc [(I 0),.zf]),.w .none none (.store 2 aT7 aS0)] (.seq (iSr [iSm 0,iWl 11 (.call (.c (.fn 86 (.of 86) [])) [aS0])] X2) X7))
def F32.b1:IR:=F32.g1 F32.b2 F32.b7
def F32.g0 (X1:IR):IR:=(iSr [iWl 3 (.box aT2),iQo 4 (.mv (.c (.str []))),iQo 5 (.mv aC0)] (.seq (.seq (.yh [] [(iSm 0,0,[]),(iSm 1,0,[]),(.s (.load aT3),1,[]),(.s (.bin .lss .int aS0 aC0),1,[]),(iCa 84 [aS3,aS2],0,[]),(.s (.mv aS1),0,[]),(iPf 0 (.load aT3),0,[]),(iPf 1 (.bin .gtr .int aS0 qX),0,[]),(.s (.pick aS2 (.c (.bool true)) aS0),0,[]),(iCa 76 [aS0,aC3],0,[]),(.w .push none (.yg 1 2 [(I 0)] [(0,1,aS5),(1,1,aS0)]),0,[]),(iCa 72 [aS0],0,[]),(iQm 6 0,0,[])]) (iSr [iSm 6,iQo 10 (.bin .neq .int aS0 aC0)] (.cond bP (iSr [iSm 6,iQo 4 (.mv (.c (.str []))),iQm 5 0] .ret) .skip))) X1))
def F32.b0:IR:=F32.g0 F32.b1
def F32.res:List RV:=[.t (.of 4),.t (.of 5)]
def F32:Fn:={ params:=[(.of 0),(.of 1),(.of 2)],res:=F32.res,body:=F32.b0,init:=in15 }
theorem F32.ok:fnA Tryz.prog Tryz.f32 [0,1,2,5,6,7,8,9,11,12,26,30,31,32,45]=some F32:=by kernel_rfl
abbrev F33.fr:=fr6
def F33.b0:IR:=(iSr [iQo 2 (.mv aC0),iQo 3 (.mv aC0)] (iSr [iSm 0,iSm 1,iCa 39 [aS1,aS0],.s (.mv aS0),.s (.ext 0 aS0),.s (.ext 1 aS1),iQm 4 1,iQm 5 0] (iSr [iSm 4,.s (.len aS0),iSm 5,iQm 2 1,iQm 3 0] .ret)))
def F33.res:List RV:=[.t (.of 2),.t (.of 3)]
def F33:Fn:={ params:=[(.of 0),(.of 1)],res:=F33.res,body:=F33.b0,init:=in6 }
theorem F33.ok:fnA Tryz.prog Tryz.f33 [0,1,4,5,6,7]=some F33:=by kernel_rfl
abbrev F34.fr:=fr8
def F34.b7:IR:=(.reg [iSm 4,.w .push none (.yg 1 0 [(I 0)] []),iSm 0,.w .push none (.app 1 8 aS1 aS0),iSm 5,.w .push none (.yg 1 1 [(I 0)] [(0,1,aS0)]),.w .push none (.app 1 8 aS2 aS0),iSm 1,iSm 2,iCa 34 [aS2,aS1,aS0],.w .push none (.app 1 24 aS9 aS0),iQm 4 0])
def F34.g6 (X7:IR):IR:=(.block 1 X7)
def F34.b6:IR:=F34.g6 F34.b7
def F34.b8:IR:=(.reg [iSm 5,.s (.bin .add .int aS0 aC1),iQm 5 0])
def F34.g5 (X6 X8:IR):IR:=(.seq X6 X8)
def F34.b5:IR:=F34.g5 F34.b6 F34.b8
def F34.g4 (X5:IR):IR:=(.seq (iSr [iSm 5,iSm 2,iQo 7 (.bin .leq .int aS1 aS0)] (.cond aT7 .skip (.exit 0))) X5)
def F34.b4:IR:=F34.g4 F34.b5
def F34.g3 (X4:IR):IR:=(.loop X4)
def F34.b3:IR:=F34.g3 F34.b4
def F34.g2 (X3:IR):IR:=(.block 0 X3)
def F34.b2:IR:=F34.g2 F34.b3
def F34.b9:IR:=(iSr [iSm 4,iQm 3 0] .ret)
def F34.g1 (X2 X9:IR):IR:=(iSr [iQo 4 (.mv (.c .zf))] (.seq (iSr [iQo 5 (.mv aC1)] X2) X9))
def F34.b1:IR:=F34.g1 F34.b2 F34.b9
def F34.g0 (X1:IR):IR:=(iSr [iQo 3 (.mv (.c .zf))] (.seq (iSr [iSm 0,.s (.len aS0),iSm 1,iQo 6 (.bin .eql .int aS1 aS0)] (.cond aT6 (iSr [.w .push none (.yg 1 0 [(I 0)] []),iSm 0,.w .push none (.app 1 8 aS1 aS0),.w .push none (.yg 1 1 [.zf] [(0,1,aS0)]),iQm 3 0] .ret) .skip)) X1))
def F34.b0:IR:=F34.g0 F34.b1
def F34.res:List RV:=[.t (.of 3)]
def F34:Fn:={ params:=[(.of 0),(.of 1),(.of 2)],res:=F34.res,body:=F34.b0,init:=in8 }
theorem F34.ok:fnA Tryz.prog Tryz.f34 [0,1,2,6,7,8,12,19]=some F34:=by kernel_rfl
abbrev F35.fr:=fr2
def F35.b0:IR:=(iSr [iQo 1 (.mv (.c (.str [])))] (iSr [iSm 0,iCa 94 [aS0],iCa 93 [aS0],iQm 1 0] .ret))
def F35.res:List RV:=[.t (.of 1)]
def F35:Fn:={ params:=[(.of 0)],res:=F35.res,body:=F35.b0,init:=in2 }
theorem F35.ok:fnA Tryz.prog Tryz.f35 [0,2]=some F35:=by kernel_rfl
abbrev F37.fr:=fr19
def F37.b7:IR:=(iSr [.s (.zo 1 tJ aW),.s (.load aS0),iQm 7 0] (iSr [iSm 7,iSm 7,.s (.len aS0),.s (.bin .sub .int aS0 aC1),.s (.zo 1 aS3 aS0),.s (.load aS0),iQm 8 0] (.yh [] [(.s (.load aT6),2,[]),(iSm 8,2,[]),(.s (.load aT6),1,[]),(iSm 8,1,[]),(.s (.zo 1 aS1 aS0),1,[]),(.s (.load aS0),1,[]),(iSm 7,0,[]),(.w .push none (.yg 1 1 [.zf] [(0,1,aS0)]),0,[]),(.w .push none (.app 1 24 aS2 aS0),0,[]),(.s (.zo 1 aS8 aS7),0,[]),(.w .none none (.store 1 aS0 aS1),0,[])])))
def F37.g6 (X7:IR):IR:=(.block 1 X7)
def F37.b6:IR:=F37.g6 F37.b7
def F37.b8:IR:=(.reg [.s (.bin .add .int aW aC1),iQm 16 0])
def F37.g5 (X6 X8:IR):IR:=(.seq X6 X8)
def F37.b5:IR:=F37.g5 F37.b6 F37.b8
def F37.g4 (X5:IR):IR:=(iSr [iQo 17 (.bin .lss .int aW oO)] (.seq (.cond aC .skip (.exit 0)) X5))
def F37.b4:IR:=F37.g4 F37.b5
def F37.g3 (X4:IR):IR:=(.loop X4)
def F37.b3:IR:=F37.g3 F37.b4
def F37.g2 (X3:IR):IR:=(.block 0 X3)
def F37.b2:IR:=F37.g2 F37.b3
def F37.b10:IR:=(iSr [.s (.load aT9),iQm 2 0,iQo 3 (.mv aC0)] .ret)
def F37.g9 (X10:IR):IR:=(iSr [iWl 9 (.alloc [.zf])] (iSr [.s (.zn 0 aT1),.s (.load aS0),.w .push none (.ql 1 8 [(I 0)] aS0 aS0),iWl 10 (.alloc [.zf]),.w .none none (.store 1 bP aS0)] (iSr [.s (.zn 0 aT1),.s (.load aS0),.w .push none (.ql 1 1 [(.bool false)] aS0 aS0),iWl 11 (.alloc [.zf]),.w .none none (.store 1 rV aS0)] (iSr [iWl 12 (.alloc [.fC])] (iSr [.s (.fn 95 (.of 95) [aT1,aT9,bP,rV,aT6,aT5,eX]),.w .none none (.store 1 eX aS0)] (.seq (iSr [.s (.load eX),.w .push none (.call aS0 [aC0]),iQo 18 (.not aS0)] (.cond aT18 (iSr [iQo 2 (.mv (.c .zf)),iQo 3 (.mv aC5)] .ret) .skip)) X10))))))
def F37.b9:IR:=F37.g9 F37.b10
def F37.g1 (X2 X9:IR):IR:=(iSr [.s (.zi 2 aT1),iCa 74 [aS0],iWl 5 (.alloc [.fC]),.w .none none (.store 1 aT5 aS0)] (iSr [.s (.zn 0 aT1),.s (.load aS0),.w .push none (.ql 1 24 [.zf] aS0 aS0),iWl 6 (.alloc [.zf]),.w .none none (.store 1 aT6 aS0)] (.seq (iSr [.s (.zn 1 aT1),iQo 14 (.load aS0),iQo 15 (.len tJ),iQo 16 (.mv aC0)] X2) X9)))
def F37.b1:IR:=F37.g1 F37.b2 F37.b9
def F37.g0 (X1:IR):IR:=(iSr [iWl 1 (.box aT0),iQo 2 (.mv (.c .zf)),iQo 3 (.mv aC0)] (.seq (.seq (.yh [] [(.s (.zi 2 aT1),0,[]),(.s (.zn 0 aT1),1,[]),(.s (.load aS0),1,[]),(.s (.bin .gtr .int aS0 aC9),1,[]),(iCa 73 [aS3],0,[]),(iCa 76 [aS1,aC20],0,[]),(.w .push none (.yg 1 2 [(I 0)] [(0,1,aS1),(1,1,aS0)]),0,[]),(iCa 72 [aS0],0,[]),(iQm 4 0,0,[])]) (iSr [iSm 4,iQo 13 (.bin .neq .int aS0 aC0)] (.cond rD (iSr [iSm 4,iQo 2 (.mv (.c .zf)),iQm 3 0] .ret) .skip))) X1))
def F37.b0:IR:=F37.g0 F37.b1
def F37.res:List RV:=[.t (.of 2),.t (.of 3)]
def F37:Fn:={ params:=[(.of 0)],res:=F37.res,body:=F37.b0,init:=in19 }
theorem F37.ok:fnA Tryz.prog Tryz.f37 [0,1,2,3,4,5,6,8,9,10,11,12,13,23,31,32,33,34,63]=some F37:=by kernel_rfl
abbrev F38.fr:=fr1
def F38.b0:IR:=(iSr [iWl 0 (.alloc [(I 0),.zf])] (iSr [.w .push none (.yg 1 2 [(I 0)] [(0,1,aC0),(1,1,aC1)]),.w .push none (.yg 1 2 [(I 0)] [(0,1,aC2),(1,1,aC3)]),.w .push none (.yg 1 2 [.zf] [(0,1,aS1),(1,1,aS0)]),.s (.build [(I 0),.zf] [(0,1,aC4),(1,1,aS0)]),.w .none none (.store 2 aT0 aS0)] .ret))
def F38.res:List RV:=[.cell (.of 0) (some 2)]
def F38:Fn:={ params:=[],res:=F38.res,body:=F38.b0,init:=in1 }
theorem F38.ok:fnA Tryz.prog Tryz.f38 [0]=some F38:=by kernel_rfl
abbrev F39.fr:=fr26
def F39.b13:IR:=(iSr [.s (.zo 1 aC tK),.s (.load aS0),iQm 9 0] (.reg [iSm 8,iSm 9,iSm 7,.s (.zo 1 aS1 aS0),.s (.load aS0),.s (.rY false aS4 [aS0]),iQm 8 0]))
def F39.g12 (X13:IR):IR:=(.block 3 X13)
def F39.b12:IR:=F39.g12 F39.b13
def F39.b14:IR:=(.reg [.s (.bin .add .int tK aC1),iQm 19 0])
def F39.g11 (X12 X14:IR):IR:=(.seq X12 X14)
def F39.b11:IR:=F39.g11 F39.b12 F39.b14
def F39.g10 (X11:IR):IR:=(iSr [iQo 20 (.bin .lss .int tK aT18)] (.seq (.cond aT20 .skip (.exit 2)) X11))
def F39.b10:IR:=F39.g10 F39.b11
def F39.g9 (X10:IR):IR:=(.loop X10)
def F39.b9:IR:=F39.g9 F39.b10
def F39.g8 (X9:IR):IR:=(.block 2 X9)
def F39.b8:IR:=F39.g8 F39.b9
def F39.b15:IR:=(.reg [iSm 6,iSm 8,.s (.zo 1 aS1 aS0),.s (.load aS0),.s (.bin .add .int aS0 aC1),.s (.zo 1 aS4 aS3),.w .none none (.store 1 aS0 aS1)])
def F39.g7 (X8 X15:IR):IR:=(iSr [iSm 15,iQm 7 0] (iSr [iSm 7,iQm 8 0] (.seq (iSr [iQo 17 (.mv aT4),iQo 18 (.len aC),iQo 19 (.mv aC0)] X8) X15)))
def F39.b7:IR:=F39.g7 F39.b8 F39.b15
def F39.g6 (X7:IR):IR:=(.block 1 X7)
def F39.b6:IR:=F39.g6 F39.b7
def F39.b16:IR:=(.reg [.s (.bin .add .int oO aC1),iQm 15 0])
def F39.g5 (X6 X16:IR):IR:=(.seq X6 X16)
def F39.b5:IR:=F39.g5 F39.b6 F39.b16
def F39.g4 (X5:IR):IR:=(iSr [iQo 16 (.bin .lss .int oO tJ)] (.seq (.cond aW .skip (.exit 0)) X5))
def F39.b4:IR:=F39.g4 F39.b5
def F39.g3 (X4:IR):IR:=(.loop X4)
def F39.b3:IR:=F39.g3 F39.b4
def F39.g2 (X3:IR):IR:=(.block 0 X3)
def F39.b2:IR:=F39.g2 F39.b3
def F39.b23:IR:=(iSr [iSm 23,.s (.zo 1 aT21 aT23),.s (.load aS0),iQm 11 2,iQm 12 0] (iSr [iSm 12,iQo 25 (.bin .gtr .int aS0 aC0)] (.cond aT25 (.reg [iSm 10,iSm 1,iSm 11,.s (.zo 1 aS1 aS0),.s (.load aS0),iCa 48 [aS0],iSm 12,.s (.build [.zf,(I 0)] [(0,1,aS1),(1,1,aS0)]),.w .push none (.yg 2 1 [.zf,(I 0)] [(0,2,aS0)]),.w .push none (.appq 2 32 aS8 aS0),iQm 10 0]) .skip)))
def F39.g22 (X23:IR):IR:=(.block 5 X23)
def F39.b22:IR:=F39.g22 F39.b23
def F39.b24:IR:=(.reg [.s (.bin .add .int aT23 aC1),iQm 23 0])
def F39.g21 (X22 X24:IR):IR:=(.seq X22 X24)
def F39.b21:IR:=F39.g21 F39.b22 F39.b24
def F39.g20 (X21:IR):IR:=(iSr [iQo 24 (.bin .lss .int aT23 aT22)] (.seq (.cond aT24 .skip (.exit 4)) X21))
def F39.b20:IR:=F39.g20 F39.b21
def F39.g19 (X20:IR):IR:=(.loop X20)
def F39.b19:IR:=F39.g19 F39.b20
def F39.g18 (X19:IR):IR:=(.block 4 X19)
def F39.b18:IR:=F39.g18 F39.b19
def F39.b25:IR:=(iSr [iSm 10,iQm 2 0,iQo 3 (.mv aC0)] .ret)
def F39.g17 (X18 X25:IR):IR:=(iSr [iQo 10 (.mv (.c .zf))] (.seq (iSr [iQo 21 (.mv aT6),iQo 22 (.len aT21),iQo 23 (.mv aC0)] X18) X25))
def F39.b17:IR:=F39.g17 F39.b18 F39.b25
def F39.g1 (X2 X17:IR):IR:=(iSr [iSm 1,.s (.len aS0),.w .push none (.ql 1 8 [(I 0)] aS0 aS0),iQm 6 0] (.seq (iSr [iSm 1,iQo 14 (.len aS0),iQo 15 (.mv aC0)] X2) X17))
def F39.b1:IR:=F39.g1 F39.b2 F39.b17
def F39.g0 (X1:IR):IR:=(iSr [iQo 2 (.mv (.c .zf)),iQo 3 (.mv aC0)] (iSr [iSm 0,iSm 1,iCa 96 [aS1,aS0],.s (.mv aS0),.s (.ext 0 aS0),.s (.ext 1 aS1),iQm 4 1,iQm 5 0] (.seq (iSr [iSm 5,iQo 13 (.bin .neq .int aS0 aC0)] (.cond rD (iSr [iSm 5,iQo 2 (.mv (.c .zf)),iQm 3 0] .ret) .skip)) X1)))
def F39.b0:IR:=F39.g0 F39.b1
def F39.res:List RV:=[.t (.of 2),.t (.of 3)]
def F39:Fn:={ params:=[(.of 0),(.of 1)],res:=F39.res,body:=F39.b0,init:=in26 }
theorem F39.ok:fnA Tryz.prog Tryz.f39 [0,1,4,5,6,7,8,9,10,12,13,14,15,23,29,30,31,34,35,36,37,54,55,56,57,62]=some F39:=by kernel_rfl
abbrev F40.fr:=fr7
def F40.b1:IR:=(iSr [.s (.zi 2 aT2),iSm 1,iCa 98 [aS1,aS0],.s (.bin .lss .int aS0 aC0),iQm 3 0,iQo 4 (.mv aC0)] .ret)
def F40.g0 (X1:IR):IR:=(iSr [iWl 2 (.box aT0),iQo 3 (.mv (.c (.bool false))),iQo 4 (.mv aC0)] (.seq (iSr [.s (.zi 2 aT2),iSm 1,iCa 97 [aS1,aS0],iQm 5 0] (iSr [iSm 5,iQo 6 (.bin .neq .int aS0 aC0)] (.cond aT6 (iSr [iSm 5,iQo 3 (.mv (.c (.bool false))),iQm 4 0] .ret) .skip))) X1))
def F40.b0:IR:=F40.g0 F40.b1
def F40.res:List RV:=[.t (.of 3),.t (.of 4)]
def F40:Fn:={ params:=[(.of 0),(.of 1)],res:=F40.res,body:=F40.b0,init:=in7 }
theorem F40.ok:fnA Tryz.prog Tryz.f40 [0,1,2,4,5,6,11]=some F40:=by kernel_rfl
abbrev F42.fr:=fr8
def F42.b6:IR:=(iSr [.s (.zo 1 aT3 aT5),.s (.load aS0),iQm 2 0] (iSr [iSm 2,iQo 7 (.bin .neq .int aS0 aC0)] (.cond aT7 (iSr [iSm 2,iQm 1 0] .ret) .skip)))
def F42.g5 (X6:IR):IR:=(.block 1 X6)
def F42.b5:IR:=F42.g5 F42.b6
def F42.b7:IR:=(.reg [.s (.bin .add .int aT5 aC1),iQm 5 0])
def F42.g4 (X5 X7:IR):IR:=(.seq X5 X7)
def F42.b4:IR:=F42.g4 F42.b5 F42.b7
def F42.g3 (X4:IR):IR:=(iSr [iQo 6 (.bin .lss .int aT5 aT4)] (.seq (.cond aT6 .skip (.exit 0)) X4))
def F42.b3:IR:=F42.g3 F42.b4
def F42.g2 (X3:IR):IR:=(.loop X3)
def F42.b2:IR:=F42.g2 F42.b3
def F42.g1 (X2:IR):IR:=(.block 0 X2)
def F42.b1:IR:=F42.g1 F42.b2
def F42.b8:IR:=(iSr [iQo 1 (.mv aC0)] .ret)
def F42.g0 (X1 X8:IR):IR:=(iSr [iQo 1 (.mv aC0)] (.seq (iSr [iQo 3 (.mv aT0),iQo 4 (.len aT3),iQo 5 (.mv aC0)] X1) X8))
def F42.b0:IR:=F42.g0 F42.b1 F42.b8
def F42.res:List RV:=[.t (.of 1)]
def F42:Fn:={ params:=[(.of 0)],res:=F42.res,body:=F42.b0,init:=in8 }
theorem F42.ok:fnA Tryz.prog Tryz.f42 [0,2,4,5,6,7,8,12]=some F42:=by kernel_rfl
abbrev F44.fr:=fr4
def F44.b1:IR:=(iSr [iQo 2 (.mv aC0)] .ret)
def F44.g0 (X1:IR):IR:=(iSr [iQo 2 (.mv aC0)] (.seq (iSr [iQo 3 (.mv aT0)] (.cond aT3 (iSr [iSm 1,iQm 2 0] .ret) .skip)) X1))
def F44.b0:IR:=F44.g0 F44.b1
def F44.res:List RV:=[.t (.of 2)]
def F44:Fn:={ params:=[(.of 0),(.of 1)],res:=F44.res,body:=F44.b0,init:=in4 }
theorem F44.ok:fnA Tryz.prog Tryz.f44 [0,1,4,5]=some F44:=by kernel_rfl
abbrev F46.fr:=fr3
def F46.b0:IR:=(iSr [iWl 1 (.box aT0),iQo 2 (.mv aC0)] (.seq (.yh [] [(.s (.zi 2 aT1),0,[]),(.s (.zn 0 aT1),1,[]),(.s (.load aS0),1,[]),(.s (.bin .gtr .int aS0 aC9),1,[]),(iCa 73 [aS3],0,[]),(iCa 105 [aS1,aC20],0,[]),(.w .push none (.yg 1 2 [(I 0)] [(0,1,aS1),(1,1,aS0)]),0,[]),(iCa 104 [aS0],0,[]),(iQm 2 0,0,[])]) .ret))
def F46.res:List RV:=[.t (.of 2)]
def F46:Fn:={ params:=[(.of 0)],res:=F46.res,body:=F46.b0,init:=in3 }
theorem F46.ok:fnA Tryz.prog Tryz.f46 [0,1,2]=some F46:=by kernel_rfl
abbrev F47.fr:=fr5
def F47.b0:IR:=(iSr [iWl 2 (.box aT0),iWl 3 (.box aT1),iQo 4 (.mv (.c .fC))] (iSr [.s (.fn 106 (.of 106) [aT2,aT3]),iQm 4 0] .ret))
def F47.res:List RV:=[.t (.of 4)]
def F47:Fn:={ params:=[(.of 0),(.of 1)],res:=F47.res,body:=F47.b0,init:=in5 }
theorem F47.ok:fnA Tryz.prog Tryz.f47 [0,1,2,3,4]=some F47:=by kernel_rfl
abbrev F48.fr:=fr3
def F48.b1:IR:=(iSr [.w .push none (.yg 1 0 [(I 0)] []),iSm 0,.w .push none (.app 1 8 aS1 aS0),iQm 1 0] .ret)
def F48.g0 (X1:IR):IR:=(iSr [iQo 1 (.mv (.c .zf))] (.seq (iSr [iSm 0,iQo 2 (.bin .eql (.nil .sl) aS0 (.c .zf))] (.cond aT2 (iSr [iQo 1 (.mv (.c .zf))] .ret) .skip)) X1))
def F48.b0:IR:=F48.g0 F48.b1
def F48.res:List RV:=[.t (.of 1)]
def F48:Fn:={ params:=[(.of 0)],res:=F48.res,body:=F48.b0,init:=in3 }
theorem F48.ok:fnA Tryz.prog Tryz.f48 [0,2,4]=some F48:=by kernel_rfl
abbrev F60.fr:=fr12
def F60.b5:IR:=(iSr [.s (.entry aT6),.s (.ext 1 aS0),iWl 3 (.alloc [.zf,(.bool false)]),.w .none none (.store 2 aT3 aS0)] (.reg [iSm 2,.s (.zi 2 aT3),.w .push none (.yg 2 1 [.zf,(.bool false)] [(0,2,aS0)]),.w .push none (.appq 2 32 aS2 aS0),iQm 2 0]))
def F60.g4 (X5:IR):IR:=(.block 1 X5)
def F60.b4:IR:=F60.g4 F60.b5
def F60.g3 (X4:IR):IR:=(iSr [.w .push none (.next aT6),iQo 7 (.ext 0 aS0)] (.seq (.cond aT7 .skip (.exit 0)) X4))
def F60.b3:IR:=F60.g3 F60.b4
def F60.g2 (X3:IR):IR:=(.loop X3)
def F60.b2:IR:=F60.g2 F60.b3
def F60.g1 (X2:IR):IR:=(.block 0 X2)
def F60.b1:IR:=F60.g1 F60.b2
def F60.b12:IR:=(iSr [.s (.zo 2 aT8 bP),.s (.zi 2 aS0),iWl 5 (.alloc [.zf,(.bool false)]),.w .none none (.store 2 aT5 aS0)] (.reg [iSm 4,.s (.zi 2 aT5),.w .push none (.yg 2 1 [.zf,(.bool false)] [(0,2,aS0)]),.w .push none (.appq 2 32 aS2 aS0),iQm 4 0]))
def F60.g11 (X12:IR):IR:=(.block 3 X12)
def F60.b11:IR:=F60.g11 F60.b12
def F60.b13:IR:=(.reg [.s (.bin .add .int bP aC1),iQm 10 0])
def F60.g10 (X11 X13:IR):IR:=(.seq X11 X13)
def F60.b10:IR:=F60.g10 F60.b11 F60.b13
def F60.g9 (X10:IR):IR:=(iSr [iQo 11 (.bin .lss .int bP aT9)] (.seq (.cond rV .skip (.exit 2)) X10))
def F60.b9:IR:=F60.g9 F60.b10
def F60.g8 (X9:IR):IR:=(.loop X9)
def F60.b8:IR:=F60.g8 F60.b9
def F60.g7 (X8:IR):IR:=(.block 2 X8)
def F60.b7:IR:=F60.g7 F60.b8
def F60.b14:IR:=(iSr [iSm 4,iQm 1 0] .ret)
def F60.g6 (X7 X14:IR):IR:=(iSr [iSm 2,.w .push none (.call (.c (.fn 113 (.of 113) [])) [aS0,(.c (.fn 114 (.of 114) []))])] (iSr [iQo 4 (.mv (.c .zf))] (.seq (iSr [iQo 8 (.mv aT2),iQo 9 (.len aT8),iQo 10 (.mv aC0)] X7) X14)))
def F60.b6:IR:=F60.g6 F60.b7 F60.b14
def F60.g0 (X1 X6:IR):IR:=(iSr [iQo 1 (.mv (.c .zf))] (iSr [iQo 2 (.mv (.c .zf))] (.seq (iSr [iSm 0,iWl 6 (.range aS0)] X1) X6)))
def F60.b0:IR:=F60.g0 F60.b1 F60.b6
def F60.res:List RV:=[.t (.of 1)]
def F60:Fn:={ params:=[(.of 0)],res:=F60.res,body:=F60.b0,init:=in12 }
theorem F60.ok:fnA Tryz.prog Tryz.f60 [0,2,3,5,6,8,10,12,21,22,23,24]=some F60:=by kernel_rfl
abbrev F63.fr:=fr2
def F63.b0:IR:=(iSr [iQo 1 (.mv aC0)] (iSr [iSm 0,.s (.len aS0),.s (.bin .gtr .int aS0 zcf),iCa 76 [aS0,aC5],iSm 0,.w .push none (.call (.c (.fn 66 (.of 66) [])) [aS0,(.c (.fn 67 (.of 67) []))]),iCa 76 [aS0,aC3],.w .push none (.yg 1 2 [(I 0)] [(0,1,aS3),(1,1,aS0)]),iCa 72 [aS0],iQm 1 0] .ret))
def F63.res:List RV:=[.t (.of 1)]
def F63:Fn:={ params:=[(.of 0)],res:=F63.res,body:=F63.b0,init:=in2 }
theorem F63.ok:fnA Tryz.prog Tryz.f63 [0,2]=some F63:=by kernel_rfl
abbrev F64.fr:=fr4
def F64.b0:IR:=(iSr [iWl 2 (.box aT0),iQo 3 (.mv aC0)] (.seq (.yh [] [(iSm 1,0,[]),(.s (.zn 0 aT2),1,[]),(.s (.load aS0),1,[]),(.s (.len aS0),1,[]),(iSm 1,1,[]),(.s (.bin .neq .int aS1 aS0),1,[]),(.s (.zn 0 aT2),2,[]),(.s (.load aS0),2,[]),(iCa 125 [aS7],0,[]),(iCa 76 [aS3,aC2],0,[]),(iCa 126 [aS2],0,[]),(.s (.not aS0),0,[]),(iCa 76 [aS0,aC14],0,[]),(.w .push none (.yg 1 3 [(I 0)] [(0,1,aS4),(1,1,aS3),(2,1,aS0)]),0,[]),(iCa 72 [aS0],0,[]),(iQm 3 0,0,[])]) .ret))
def F64.res:List RV:=[.t (.of 3)]
def F64:Fn:={ params:=[(.of 0),(.of 1)],res:=F64.res,body:=F64.b0,init:=in4 }
theorem F64.ok:fnA Tryz.prog Tryz.f64 [0,1,2,4]=some F64:=by kernel_rfl
abbrev F65.fr:=fr12
def F65.b7:IR:=(.reg [iSm 4,.s (.zn 0 aT2),.s (.load aS0),iSm 5,.s (.zo 1 aS1 aS0),.s (.load aS0),iSm 6,.s (.zo 1 aS6 aS1),.w .none none (.store 1 aS0 aS1)])
def F65.g6 (X7:IR):IR:=(iSr [iSm 9,.s (.zo 1 aT7 aT9),.s (.load aS0),iQm 5 2,iQm 6 0] (.seq (iSr [.s (.zn 1 aT2),iQo 11 (.load aS0)] (.cond rV (.reg [iSm 1,.s (.len aS0),.s (.bin .add .int aS0 aC1),iSm 6,.s (.bin .sub .int aS1 aS0),iQm 6 0]) .skip)) X7))
def F65.b6:IR:=F65.g6 F65.b7
def F65.g5 (X6:IR):IR:=(.block 1 X6)
def F65.b5:IR:=F65.g5 F65.b6
def F65.b8:IR:=(.reg [.s (.bin .add .int aT9 aC1),iQm 9 0])
def F65.g4 (X5 X8:IR):IR:=(.seq X5 X8)
def F65.b4:IR:=F65.g4 F65.b5 F65.b8
def F65.g3 (X4:IR):IR:=(iSr [iQo 10 (.bin .lss .int aT9 aT8)] (.seq (.cond bP .skip (.exit 0)) X4))
def F65.b3:IR:=F65.g3 F65.b4
def F65.g2 (X3:IR):IR:=(.loop X3)
def F65.b2:IR:=F65.g2 F65.b3
def F65.g1 (X2:IR):IR:=(.block 0 X2)
def F65.b1:IR:=F65.g1 F65.b2
def F65.b9:IR:=(iSr [iSm 4,iQm 3 0] .ret)
def F65.g0 (X1 X9:IR):IR:=(iSr [iWl 2 (.box aT0),iQo 3 (.mv (.c .zf))] (iSr [iSm 1,.s (.len aS0),.w .push none (.ql 1 8 [(I 0)] aS0 aS0),iQm 4 0] (.seq (iSr [iQo 7 (.mv aT1),iQo 8 (.len aT7),iQo 9 (.mv aC0)] X1) X9)))
def F65.b0:IR:=F65.g0 F65.b1 F65.b9
def F65.res:List RV:=[.t (.of 3)]
def F65:Fn:={ params:=[(.of 0),(.of 1)],res:=F65.res,body:=F65.b0,init:=in12 }
theorem F65.ok:fnA Tryz.prog Tryz.f65 [0,1,2,4,5,6,7,11,12,13,14,19]=some F65:=by kernel_rfl
abbrev F66.fr:=fr3
def F66.b0:IR:=(iSr [iQo 2 (.mv (.c (.bool false)))] (iSr [iSm 0,iSm 1,iCa 127 [aS1,aS0],.s (.bin .geq .int aS0 aC0),iQm 2 0] .ret))
def F66.res:List RV:=[.t (.of 2)]
def F66:Fn:={ params:=[(.of 0),(.of 1)],res:=F66.res,body:=F66.b0,init:=in3 }
theorem F66.ok:fnA Tryz.prog Tryz.f66 [0,1,4]=some F66:=by kernel_rfl
abbrev F67.fr:=fr2
def F67.b0:IR:=(iSr [iQo 1 (.mv (.c (.bool false)))] (iSr [iSm 0,.s (.bin .lss .int aS0 (.c (I (-999999999)))),.s (.mv aS0),iPf 0 (.mv aT0),iPf 1 (.bin .gtr .int aS0 qX),.s (.pick aS2 (.c (.bool true)) aS0),iQm 1 0] .ret))
def F67.res:List RV:=[.t (.of 1)]
def F67:Fn:={ params:=[(.of 0)],res:=F67.res,body:=F67.b0,init:=in2 }
theorem F67.ok:fnA Tryz.prog Tryz.f67 [0,2]=some F67:=by kernel_rfl
abbrev F68.fr:=fr6
def F68.b1:IR:=(iSr [iSm 0,iSm 1,iCa 129 [aS1,aS0],.s (.ext 0 aS0),.s (.ext 1 aS1),iQm 2 1,iQm 3 0] .ret)
def F68.g0 (X1:IR):IR:=(iSr [iQo 2 (.mv (.c .zf)),iQo 3 (.mv aC0)] (.seq (iSr [iSm 0,iSm 1,iCa 128 [aS1,aS0],iQm 4 0] (iSr [iSm 4,iQo 5 (.bin .neq .int aS0 aC0)] (.cond aT5 (iSr [iSm 4,iQo 2 (.mv (.c .zf)),iQm 3 0] .ret) .skip))) X1))
def F68.b0:IR:=F68.g0 F68.b1
def F68.res:List RV:=[.t (.of 2),.t (.of 3)]
def F68:Fn:={ params:=[(.of 0),(.of 1)],res:=F68.res,body:=F68.b0,init:=in6 }
theorem F68.ok:fnA Tryz.prog Tryz.f68 [0,1,4,5,6,11]=some F68:=by kernel_rfl
abbrev F70.fr:=fr6
def F70.b0:IR:=(iSr [iWl 3 (.box aT0),iWl 4 (.box aT1),iQo 5 (.mv aC0)] (iSr [iSm 2,.s (.fn 131 (.of 131) [aT3,aT4]),iCa 66 [aS1,aS0],iCa 44 [aS0,aC3],iQm 5 0] .ret))
def F70.res:List RV:=[.t (.of 5)]
def F70:Fn:={ params:=[(.of 0),(.of 1),(.of 2)],res:=F70.res,body:=F70.b0,init:=in6 }
theorem F70.ok:fnA Tryz.prog Tryz.f70 [0,1,2,3,4,6]=some F70:=by kernel_rfl
abbrev F72.fr:=fr8
def F72.b6:IR:=(iSr [.s (.zo 1 aT3 aT5),.s (.load aS0),iQm 2 0] (iSr [iSm 2,iQo 7 (.bin .neq .int aS0 aC0)] (.cond aT7 (iSr [iSm 2,iQm 1 0] .ret) .skip)))
def F72.g5 (X6:IR):IR:=(.block 1 X6)
def F72.b5:IR:=F72.g5 F72.b6
def F72.b7:IR:=(.reg [.s (.bin .add .int aT5 aC1),iQm 5 0])
def F72.g4 (X5 X7:IR):IR:=(.seq X5 X7)
def F72.b4:IR:=F72.g4 F72.b5 F72.b7
def F72.g3 (X4:IR):IR:=(iSr [iQo 6 (.bin .lss .int aT5 aT4)] (.seq (.cond aT6 .skip (.exit 0)) X4))
def F72.b3:IR:=F72.g3 F72.b4
def F72.g2 (X3:IR):IR:=(.loop X3)
def F72.b2:IR:=F72.g2 F72.b3
def F72.g1 (X2:IR):IR:=(.block 0 X2)
def F72.b1:IR:=F72.g1 F72.b2
def F72.b8:IR:=(iSr [iQo 1 (.mv aC0)] .ret)
def F72.g0 (X1 X8:IR):IR:=(iSr [iQo 1 (.mv aC0)] (.seq (iSr [iQo 3 (.mv aT0),iQo 4 (.len aT3),iQo 5 (.mv aC0)] X1) X8))
def F72.b0:IR:=F72.g0 F72.b1 F72.b8
def F72.res:List RV:=[.t (.of 1)]
def F72:Fn:={ params:=[(.of 0)],res:=F72.res,body:=F72.b0,init:=in8 }
theorem F72.ok:fnA Tryz.prog Tryz.f72 [0,2,4,5,6,7,8,12]=some F72:=by kernel_rfl
abbrev F73.fr:=fr11
def F73.b7:IR:=(iSr [iSm 8,iQm 4 0] (iSr [.s (.zi 2 aT1),iSm 4,iCa 136 [aS1,aS0],iQm 5 0] (iSr [iSm 5,iQo 10 (.bin .neq .int aS0 aC0)] (.cond bP (iSr [iSm 5,iQm 2 0] .ret) .skip))))
def F73.g6 (X7:IR):IR:=(.block 1 X7)
def F73.b6:IR:=F73.g6 F73.b7
def F73.b8:IR:=(.reg [.s (.bin .add .int aT8 aC1),iQm 8 0])
def F73.g5 (X6 X8:IR):IR:=(.seq X6 X8)
def F73.b5:IR:=F73.g5 F73.b6 F73.b8
def F73.g4 (X5:IR):IR:=(iSr [iQo 9 (.bin .lss .int aT8 aT7)] (.seq (.cond aT9 .skip (.exit 0)) X5))
def F73.b4:IR:=F73.g4 F73.b5
def F73.g3 (X4:IR):IR:=(.loop X4)
def F73.b3:IR:=F73.g3 F73.b4
def F73.g2 (X3:IR):IR:=(.block 0 X3)
def F73.b2:IR:=F73.g2 F73.b3
def F73.b9:IR:=(iSr [iQo 2 (.mv aC0)] .ret)
def F73.g1 (X2 X9:IR):IR:=(.seq (iSr [.s (.zn 1 aT1),.s (.load aS0),iQo 7 (.len aS0),iQo 8 (.mv aC0)] X2) X9)
def F73.b1:IR:=F73.g1 F73.b2 F73.b9
def F73.g0 (X1:IR):IR:=(iSr [iWl 1 (.box aT0),iQo 2 (.mv aC0)] (.seq (.seq (.yh [] [(.s (.zn 0 aT1),0,[]),(.s (.load aS0),0,[]),(.s (.zn 1 aT1),2,[]),(.s (.load aS0),2,[]),(.s (.len aS0),2,[]),(.s (.bin .gtr .int aS0 zvv),2,[]),(.w .push none (.yg 1 1 [(I 0)] [(0,1,aS4)]),0,[]),(iCa 70 [aC1,zcf,aS0],0,[]),(iCa 44 [aS2,aC5],0,[]),(.w .push none (.yg 1 2 [(I 0)] [(0,1,aS1),(1,1,aS0)]),0,[]),(iCa 42 [aS0],0,[]),(iQm 3 0,0,[])]) (iSr [iSm 3,iQo 6 (.bin .neq .int aS0 aC0)] (.cond aT6 (iSr [iSm 3,iQm 2 0] .ret) .skip))) X1))
def F73.b0:IR:=F73.g0 F73.b1
def F73.res:List RV:=[.t (.of 2)]
def F73:Fn:={ params:=[(.of 0)],res:=F73.res,body:=F73.b0,init:=in11 }
theorem F73.ok:fnA Tryz.prog Tryz.f73 [0,1,2,3,4,5,18,22,23,24,30]=some F73:=by kernel_rfl
abbrev F74.fr:=fr9
def F74.b6:IR:=(iSr [.s (.zo 1 aT5 aT7),.s (.load aS0),iQm 4 0] (.yh [] [(.s (.load aT3),1,[]),(iSm 4,0,[]),(.s (.build [.zf,(.bool false)] [(0,1,aS0)]),0,[]),(iCa 112 [aS0],0,[]),(.w .none none (.zb2 .str aS3 aS0 (.c (.bool true))),0,[])]))
def F74.g5 (X6:IR):IR:=(.block 1 X6)
def F74.b5:IR:=F74.g5 F74.b6
def F74.b7:IR:=(.reg [.s (.bin .add .int aT7 aC1),iQm 7 0])
def F74.g4 (X5 X7:IR):IR:=(.seq X5 X7)
def F74.b4:IR:=F74.g4 F74.b5 F74.b7
def F74.g3 (X4:IR):IR:=(iSr [iQo 8 (.bin .lss .int aT7 aT6)] (.seq (.cond aT8 .skip (.exit 0)) X4))
def F74.b3:IR:=F74.g3 F74.b4
def F74.g2 (X3:IR):IR:=(.loop X3)
def F74.b2:IR:=F74.g2 F74.b3
def F74.g1 (X2:IR):IR:=(.block 0 X2)
def F74.b1:IR:=F74.g1 F74.b2
def F74.b8:IR:=(iSr [.s (.fn 137 (.of 137) [aT3]),iQm 2 0] .ret)
def F74.g0 (X1 X8:IR):IR:=(iSr [iWl 1 (.box aT0),iQo 2 (.mv (.c .fC))] (iSr [.w .push none .rQ,iWl 3 (.alloc [.qc]),.w .none none (.store 1 aT3 aS0)] (.seq (iSr [.s (.zn 1 aT1),iQo 5 (.load aS0),iQo 6 (.len aT5),iQo 7 (.mv aC0)] X1) X8)))
def F74.b0:IR:=F74.g0 F74.b1 F74.b8
def F74.res:List RV:=[.t (.of 2)]
def F74:Fn:={ params:=[(.of 0)],res:=F74.res,body:=F74.b0,init:=in9 }
theorem F74.ok:fnA Tryz.prog Tryz.f74 [0,1,2,3,5,8,9,10,11]=some F74:=by kernel_rfl
abbrev F76.fr:=fr4
def F76.b1:IR:=(iSr [iQo 2 (.mv aC0)] .ret)
def F76.g0 (X1:IR):IR:=(iSr [iQo 2 (.mv aC0)] (.seq (iSr [iQo 3 (.mv aT0)] (.cond aT3 (iSr [iSm 1,iQm 2 0] .ret) .skip)) X1))
def F76.b0:IR:=F76.g0 F76.b1
def F76.res:List RV:=[.t (.of 2)]
def F76:Fn:={ params:=[(.of 0),(.of 1)],res:=F76.res,body:=F76.b0,init:=in4 }
theorem F76.ok:fnA Tryz.prog Tryz.f76 [0,1,4,5]=some F76:=by kernel_rfl
abbrev F79.fr:=fr3
def F79.b1:IR:=(iSr [iQo 1 (.mv aC0)] .ret)
def F79.g0 (X1:IR):IR:=(iSr [iQo 1 (.mv aC0)] (.seq (iSr [iSm 0,.s (.bin .lss .int aS0 aC0),.s (.mv aS0),iPf 0 (.mv aT0),iPf 1 (.bin .gtr .int aS0 zcf),iQo 2 (.pick aS2 (.c (.bool true)) aS0)] (.cond aT2 (iSr [iQo 1 (.mv aC3)] .ret) .skip)) X1))
def F79.b0:IR:=F79.g0 F79.b1
def F79.res:List RV:=[.t (.of 1)]
def F79:Fn:={ params:=[(.of 0)],res:=F79.res,body:=F79.b0,init:=in3 }
theorem F79.ok:fnA Tryz.prog Tryz.f79 [0,2,8]=some F79:=by kernel_rfl
abbrev F80.fr:=fr6
def F80.b2:IR:=(iSr [.s (.zn 0 aT2),.s (.load aS0),iCa 139 [aS0],iQm 3 0] .ret)
def F80.g1 (X2:IR):IR:=(.seq (iSr [.s (.zn 0 aT2),.s (.load aS0),.s (.len aS0),iSm 1,iQo 5 (.bin .neq .int aS1 aS0)] (.cond aT5 (iSr [iQo 3 (.mv aC2)] .ret) .skip)) X2)
def F80.b1:IR:=F80.g1 F80.b2
def F80.g0 (X1:IR):IR:=(iSr [iWl 2 (.box aT0),iQo 3 (.mv aC0)] (.seq (iSr [iSm 1,iCa 79 [aS0],iQo 4 (.bin .neq .int aS0 aC0)] (.cond aT4 (iSr [iQo 3 (.mv aC3)] .ret) .skip)) X1))
def F80.b0:IR:=F80.g0 F80.b1
def F80.res:List RV:=[.t (.of 3)]
def F80:Fn:={ params:=[(.of 0),(.of 1)],res:=F80.res,body:=F80.b0,init:=in6 }
theorem F80.ok:fnA Tryz.prog Tryz.f80 [0,1,2,4,7,12]=some F80:=by kernel_rfl
abbrev F81.fr:=fr6
def F81.b1:IR:=(iSr [.s (.zn 0 aT2),.s (.load aS0),.s (.zn 0 aT3),.s (.load aS0),iCa 140 [aS2,aS0],iQm 4 0] .ret)
def F81.g0 (X1:IR):IR:=(iSr [iWl 2 (.box aT0),iWl 3 (.box aT1),iQo 4 (.mv (.c (.bool false)))] (.seq (iSr [.s (.zn 0 aT2),.s (.load aS0),.s (.zn 0 aT3),.s (.load aS0),iWl 5 (.call (.c (.fn 24 (.of 24) [])) [aS2,aS0])] (.cond aT5 (iSr [.s (.zn 1 aT2),.s (.load aS0),.s (.not aS0),.s (.mv aS0),iPt 0 (.zn 1 aT3),iPt 1 (.load aS0),.s (.pick aS2 aS0 (.c (.bool false))),iQm 4 0] .ret) .skip)) X1))
def F81.b0:IR:=F81.g0 F81.b1
def F81.res:List RV:=[.t (.of 4)]
def F81:Fn:={ params:=[(.of 0),(.of 1)],res:=F81.res,body:=F81.b0,init:=in6 }
theorem F81.ok:fnA Tryz.prog Tryz.f81 [0,1,2,3,4,9]=some F81:=by kernel_rfl
abbrev F82.fr:=fr7
def F82.b6:IR:=(.seq (.yh [] [(iSm 0,0,[]),(iSm 4,0,[]),(.s (.zo 2 aS1 aS0),0,[]),(.s (.zi 2 aS0),0,[]),(.s (.zi 2 aT2),0,[]),(iWl 6 (.call (.c (.fn 141 (.of 141) [])) [aS1,aS0]),0,[])]) (.cond aT6 (iSr [iSm 4,iQm 3 0] .ret) .skip))
def F82.g5 (X6:IR):IR:=(.block 1 X6)
def F82.b5:IR:=F82.g5 F82.b6
def F82.b7:IR:=(.reg [iSm 4,.s (.bin .add .int aS0 aC1),iQm 4 0])
def F82.g4 (X5 X7:IR):IR:=(.seq X5 X7)
def F82.b4:IR:=F82.g4 F82.b5 F82.b7
def F82.g3 (X4:IR):IR:=(.seq (iSr [iSm 4,iSm 0,.s (.len aS0),iQo 5 (.bin .lss .int aS2 aS0)] (.cond aT5 .skip (.exit 0))) X4)
def F82.b3:IR:=F82.g3 F82.b4
def F82.g2 (X3:IR):IR:=(.loop X3)
def F82.b2:IR:=F82.g2 F82.b3
def F82.g1 (X2:IR):IR:=(.block 0 X2)
def F82.b1:IR:=F82.g1 F82.b2
def F82.b8:IR:=(iSr [iQo 3 (.mv (.c (I (-1))))] .ret)
def F82.g0 (X1 X8:IR):IR:=(iSr [iWl 2 (.box aT1),iQo 3 (.mv aC0)] (.seq (iSr [iQo 4 (.mv aC0)] X1) X8))
def F82.b0:IR:=F82.g0 F82.b1 F82.b8
def F82.res:List RV:=[.t (.of 3)]
def F82:Fn:={ params:=[(.of 0),(.of 1)],res:=F82.res,body:=F82.b0,init:=in7 }
theorem F82.ok:fnA Tryz.prog Tryz.f82 [0,1,3,4,5,9,17]=some F82:=by kernel_rfl
abbrev F83.fr:=fr5
def F83.b0:IR:=(iSr [iWl 2 (.box aT0),iWl 3 (.box aT1),iWl 4 (.alloc [.zf,(.bool false)])] (.seq (.yh [] [(.s (.zn 0 aT2),0,[]),(.s (.load aS0),0,[]),(.s (.zn 0 aT3),0,[]),(.s (.load aS0),0,[]),(.s (.zn 1 aT2),1,[]),(.s (.load aS0),1,[]),(.s (.zn 1 aT3),1,[]),(.s (.load aS0),1,[]),(.s (.bin .neq .bool aS2 aS0),1,[]),(iCa 142 [aS7,aS5],0,[]),(.s (.build [.zf,(.bool false)] [(0,1,aS0),(1,1,aS1)]),0,[]),(.w .none none (.store 2 aT4 aS0),0,[])]) .ret))
def F83.res:List RV:=[.cell (.of 4) (some 2)]
def F83:Fn:={ params:=[(.of 0),(.of 1)],res:=F83.res,body:=F83.b0,init:=in5 }
theorem F83.ok:fnA Tryz.prog Tryz.f83 [0,1,2,3,4]=some F83:=by kernel_rfl
abbrev F84.fr:=fr4
def F84.b0:IR:=(iSr [iQo 2 (.mv aC0)] (iSr [iSm 0,iSm 1,iCa 143 [aS1,aS0],.s (.mv aS0),.s (.ext 0 aS0),.s (.ext 1 aS1),.s (.ext 2 aS2),.s (.mv aS2),.s (.mv aS2),iQm 3 2] (iSr [iSm 3,iQm 2 0] .ret)))
def F84.res:List RV:=[.t (.of 2)]
def F84:Fn:={ params:=[(.of 0),(.of 1)],res:=F84.res,body:=F84.b0,init:=in4 }
theorem F84.ok:fnA Tryz.prog Tryz.f84 [0,1,4,7]=some F84:=by kernel_rfl
abbrev F85.fr:=fr2
def F85.b0:IR:=(iSr [iWl 1 (.alloc [(I 0),.zf])] (iSr [iSm 0,.s (.build [(I 0),.zf] [(0,1,aS0)]),.w .none none (.store 2 aT1 aS0)] .ret))
def F85.res:List RV:=[.cell (.of 1) (some 2)]
def F85:Fn:={ params:=[(.of 0)],res:=F85.res,body:=F85.b0,init:=in2 }
theorem F85.ok:fnA Tryz.prog Tryz.f85 [0,2]=some F85:=by kernel_rfl
abbrev F86.fr:=fr3
def F86.b0:IR:=(iSr [iWl 1 (.box aT0),iQo 2 (.mv (.c .fC))] (iSr [.s (.fn 144 (.of 144) [aT1]),iQm 2 0] .ret))
def F86.res:List RV:=[.t (.of 2)]
def F86:Fn:={ params:=[(.of 0)],res:=F86.res,body:=F86.b0,init:=in3 }
theorem F86.ok:fnA Tryz.prog Tryz.f86 [0,1,2]=some F86:=by kernel_rfl
abbrev F87.fr:=fr14
def F87.b3:IR:=(iSr [iSm 6,iSm 8,.s (.bin .eql .bool aS1 aS0),iQm 12 0] (.cond eX (iSr [iSm 6,iSm 7,iSm 9,iCa 147 [aS1,aS0],iCa 146 [aS3,aS0],.w .none none (.store 2 aT4 aS0)] .ret) (iSr [iSm 7,iSm 9,iCa 148 [aS1,aS0],.s (.bin .geq .int aS0 aC0),iQm 13 0] (.cond rD (iSr [iSm 6,iSm 7,iSm 9,iCa 149 [aS1,aS0],iCa 146 [aS3,aS0],.w .none none (.store 2 aT4 aS0)] .ret) .skip))))
def F87.g2 (X3:IR):IR:=(.block 0 X3)
def F87.b2:IR:=F87.g2 F87.b3
def F87.b4:IR:=(iSr [iSm 8,iSm 9,iSm 7,iCa 149 [aS1,aS0],iCa 146 [aS3,aS0],.w .none none (.store 2 aT4 aS0)] .ret)
def F87.g1 (X2 X4:IR):IR:=(iSr [.s (.zi 2 aT2),iCa 145 [aS0],.s (.mv aS0),.s (.ext 0 aS0),.s (.ext 1 aS1),iQm 6 1,iQm 7 0] (iSr [.s (.zi 2 aT3),iCa 145 [aS0],.s (.mv aS0),.s (.ext 0 aS0),.s (.ext 1 aS1),iQm 8 1,iQm 9 0] (.seq X2 X4)))
def F87.b1:IR:=F87.g1 F87.b2 F87.b4
def F87.g0 (X1:IR):IR:=(iSr [iWl 2 (.box aT0),iWl 3 (.box aT1),iWl 4 (.alloc [(I 0),.zf])] (.seq (iSr [.s (.zn 1 aT2),.s (.load aS0),.s (.bin .eql (.nil .sl) aS0 (.c .zf)),.s (.mv aS0),iPt 0 (.zn 1 aT3),iPt 1 (.load aS0),iPt 2 (.bin .eql (.nil .sl) aS0 (.c .zf)),iQo 10 (.pick aS3 aS0 (.c (.bool false)))] (.cond bP (iSr [.s (.zn 0 aT2),.s (.load aS0),.s (.zn 0 aT3),.s (.load aS0),.s (.bin .add .int aS2 aS0),iQm 5 0] (iSr [iSm 5,.s (.zn 0 aT2),.s (.load aS0),.s (.bin .gtr .int aS2 aS0),.s (.zn 0 aT3),.s (.load aS0),.s (.bin .gtr .int aS0 aC0),iQo 11 (.bin .eql .bool aS3 aS0)] (.cond rV (iSr [iSm 5,.s (.build [(I 0),.zf] [(0,1,aS0)]),.w .none none (.store 2 aT4 aS0)] .ret) .skip))) .skip)) X1))
def F87.b0:IR:=F87.g0 F87.b1
def F87.res:List RV:=[.cell (.of 4) (some 2)]
def F87:Fn:={ params:=[(.of 0),(.of 1)],res:=F87.res,body:=F87.b0,init:=in14 }
theorem F87.ok:fnA Tryz.prog Tryz.f87 [0,1,2,3,4,5,6,7,8,9,17,30,43,52]=some F87:=by kernel_rfl
abbrev F88.fr:=fr12
def F88.b7:IR:=(.yh [] [(.s (.zi 2 aT4),1,[]),(iSm 6,0,[]),(iCa 85 [aS0],0,[]),(iCa 151 [aS2,aS0],0,[]),(.w .none none (.store 2 aT4 aS0),0,[])])
def F88.g6 (X7:IR):IR:=(iSr [.s (.zo 1 aT7 aT9),.s (.load aS0),iQm 5 0] (iSr [iSm 1,iQm 6 0] (.seq (iSr [.s (.zn 1 aT2),.s (.load aS0),.s (.mv aS0),iPt 0 (.mv aT5),iPt 1 (.bin .rem .int aS0 aC2),iPt 2 (.bin .eql .int aS0 aC1),iQo 11 (.pick aS3 aS0 (.c (.bool false)))] (.cond rV (.reg [iSm 1,.s (.bin .rem .int aS0 aC2),iQm 6 0]) .skip)) X7)))
def F88.b6:IR:=F88.g6 F88.b7
def F88.g5 (X6:IR):IR:=(.block 1 X6)
def F88.b5:IR:=F88.g5 F88.b6
def F88.b8:IR:=(.reg [.s (.bin .add .int aT9 aC1),iQm 9 0])
def F88.g4 (X5 X8:IR):IR:=(.seq X5 X8)
def F88.b4:IR:=F88.g4 F88.b5 F88.b8
def F88.g3 (X4:IR):IR:=(iSr [iQo 10 (.bin .lss .int aT9 aT8)] (.seq (.cond bP .skip (.exit 0)) X4))
def F88.b3:IR:=F88.g3 F88.b4
def F88.g2 (X3:IR):IR:=(.loop X3)
def F88.b2:IR:=F88.g2 F88.b3
def F88.g1 (X2:IR):IR:=(.block 0 X2)
def F88.b1:IR:=F88.g1 F88.b2
def F88.b9:IR:=(iSr [.s (.zi 2 aT4),.w .none none (.store 2 aT3 aS0)] .ret)
def F88.g0 (X1 X9:IR):IR:=(iSr [iWl 2 (.box aT0),iWl 3 (.alloc [(I 0),.zf])] (iSr [iCa 85 [aC1],iWl 4 (.alloc [(I 0),.zf]),.w .none none (.store 2 aT4 aS0)] (.seq (iSr [.s (.zi 2 aT2),iWl 7 (.call (.c (.fn 150 (.of 150) [])) [aS0]),iQo 8 (.len aT7),iQo 9 (.mv aC0)] X1) X9)))
def F88.b0:IR:=F88.g0 F88.b1 F88.b9
def F88.res:List RV:=[.cell (.of 3) (some 2)]
def F88:Fn:={ params:=[(.of 0),(.of 1)],res:=F88.res,body:=F88.b0,init:=in12 }
theorem F88.ok:fnA Tryz.prog Tryz.f88 [0,1,2,4,5,7,8,11,12,13,14,24]=some F88:=by kernel_rfl
abbrev F89.fr:=fr3
def F89.b0:IR:=(iSr [iWl 1 (.box aT0),iWl 2 (.alloc [(I 0),.zf,(I 0),.zf])] (.seq (.yh [] [(.s (.zi 2 aT1),1,[]),(iCa 85 [aC1],0,[]),(.s (.build [(I 0),.zf,(I 0),.zf] [(0,2,aS1),(2,2,aS0)]),0,[]),(.w .none none (.store 4 aT2 aS0),0,[])]) .ret))
def F89.res:List RV:=[.cell (.of 2) (some 4)]
def F89:Fn:={ params:=[(.of 0)],res:=F89.res,body:=F89.b0,init:=in3 }
theorem F89.ok:fnA Tryz.prog Tryz.f89 [0,1,2]=some F89:=by kernel_rfl
abbrev F90.fr:=fr7
def F90.b1:IR:=(iSr [.s (.zi 2 aT2),.s (.zi 2 aT3),iCa 154 [aS1,aS0],.s (.mv aS0),.s (.ext 0 aS0),.s (.ext 1 aS1),iWl 5 (.alloc [(I 0),.zf]),.w .push none (.alloc [(I 0),.zf]),.w .none none (.store 2 aT5 aS2),.w .none none (.store 2 aS0 aS1)] (iSr [.s (.zi 2 aT5),.w .none none (.store 2 aT4 aS0)] .ret))
def F90.g0 (X1:IR):IR:=(iSr [iWl 2 (.box aT0),iWl 3 (.box aT1),iWl 4 (.alloc [(I 0),.zf])] (.seq (iSr [.s (.zi 2 aT3),iCa 152 [aS0],iQo 6 (.bin .lss .int aS0 aC0)] (.cond aT6 (.yh [] [(.s (.zi 2 aT2),0,[]),(.s (.zi 2 aT3),1,[]),(iCa 153 [aS1],0,[]),(iCa 153 [aS1],0,[]),(.w .none none (.store 2 aT2 aS1),0,[]),(.w .none none (.store 2 aT3 aS0),0,[])]) .skip)) X1))
def F90.b0:IR:=F90.g0 F90.b1
def F90.res:List RV:=[.cell (.of 4) (some 2)]
def F90:Fn:={ params:=[(.of 0),(.of 1)],res:=F90.res,body:=F90.b0,init:=in7 }
theorem F90.ok:fnA Tryz.prog Tryz.f90 [0,1,2,3,4,5,9]=some F90:=by kernel_rfl
abbrev F91.fr:=fr3
def F91.b0:IR:=(iSr [iWl 1 (.box aT0),iQo 2 (.mv (.c (.bool false)))] (iSr [.s (.zn 0 aT1),.s (.zi 2 aS0),iCa 155 [aS0],.s (.mv aS0),iPf 0 (.zn 2 aT1),iPf 1 (.zi 2 aS0),.w .push (some (aS2,false)) (.call (.c (.fn 155 (.of 155) [])) [aS0]),.s (.pick aS3 (.c (.bool true)) aS0),iQm 2 0] .ret))
def F91.res:List RV:=[.t (.of 2)]
def F91:Fn:={ params:=[(.of 0)],res:=F91.res,body:=F91.b0,init:=in3 }
theorem F91.ok:fnA Tryz.prog Tryz.f91 [0,1,2]=some F91:=by kernel_rfl
abbrev F92.fr:=fr4
def F92.b1:IR:=(.seq (.yh [] [(.s (.zn 0 aT1),0,[]),(.s (.zi 2 aS0),0,[]),(.s (.zn 2 aT1),1,[]),(.s (.zi 2 aS0),1,[]),(iCa 157 [aS2],0,[]),(.s (.bin .add .str aS0 (.c (.str [47]))),1,[]),(iCa 157 [aS2],0,[]),(.s (.bin .add .str aS1 aS0),0,[]),(iQm 2 0,0,[])]) .ret)
def F92.g0 (X1:IR):IR:=(iSr [iWl 1 (.box aT0),iQo 2 (.mv (.c (.str [])))] (.seq (iSr [.s (.zi 4 aT1),iWl 3 (.call (.c (.fn 156 (.of 156) [])) [aS0])] (.cond aT3 (iSr [.s (.zn 0 aT1),.s (.zi 2 aS0),iCa 157 [aS0],iQm 2 0] .ret) .skip)) X1))
def F92.b0:IR:=F92.g0 F92.b1
def F92.res:List RV:=[.t (.of 2)]
def F92:Fn:={ params:=[(.of 0)],res:=F92.res,body:=F92.b0,init:=in4 }
theorem F92.ok:fnA Tryz.prog Tryz.f92 [0,1,2,4]=some F92:=by kernel_rfl
end
end Go.Ev
