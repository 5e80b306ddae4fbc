import Derived.Test.YtdclaaahnodljaaGreatDoorEvC
import Derived.Test.YtdclaaahnodljaaGreatDoorProg
import Derived.KernelRfl
set_option linter.unusedSimpArgs false
set_option linter.unusedVariables false
namespace Go.Ev
open Go Go.Proofs
set_option maxRecDepth 100000
noncomputable section
abbrev zU:List AV:=[(.int .u8 0),(.int .u8 0),(.int .u8 0),(.int .u8 0),(.int .u8 0),(.int .u8 0),(.int .u8 0),(.int .u8 0),(.int .u8 0),(.int .u8 0),(.int .u8 0),(.int .u8 0),(.int .u8 0),(.int .u8 0),(.int .u8 0),(.int .u8 0),(.int .u8 0),(.int .u8 0),(.int .u8 0),(.int .u8 0),(.int .u8 0),(.int .u8 0),(.int .u8 0),(.int .u8 0),(.int .u8 0),(.int .u8 0),(.int .u8 0),(.int .u8 0),(.int .u8 0),(.int .u8 0),(.int .u8 0),(.int .u8 0),(.int .u8 0),(.int .u8 0),(.int .u8 0),(.int .u8 0),(.int .u8 0),(.int .u8 0),(.int .u8 0),(.int .u8 0),(.int .u8 0),(.int .u8 0),(.int .u8 0),(.int .u8 0),(.int .u8 0),(.int .u8 0),(.int .u8 0),(.int .u8 0),(.int .u8 0),(.int .u8 0),(.int .u8 0),(.int .u8 0),(.int .u8 0),(.int .u8 0),(.int .u8 0),(.int .u8 0),(.int .u8 0),(.int .u8 0),(.int .u8 0),(.int .u8 0),(.int .u8 0),(.int .u8 0),(.int .u8 0),(.int .u8 0),(.int .u8 0),(.int .u8 0),(.int .u8 0),(.int .u8 0),(.int .u8 0),(.int .u8 0),(.int .u8 0),(.int .u8 0),(.int .u8 0),(.int .u8 0),(.int .u8 0),(.int .u8 0),(.int .u8 0),(.int .u8 0),(.int .u8 0),(.int .u8 0),(.int .u8 0),(.int .u8 0),(.int .u8 0),(.int .u8 0),(.int .u8 0),(.int .u8 0),(.int .u8 0),(.int .u8 0),(.int .u8 0),(.int .u8 0),(.int .u8 0),(.int .u8 0),(.int .u8 0),(.int .u8 0),(.int .u8 0),(.int .u8 0),(.int .u8 0),(.int .u8 0),(.int .u8 0),(.int .u8 0),(.int .u8 0),(.int .u8 0),(.int .u8 0),(.int .u8 0),(.int .u8 0),(.int .u8 0),(.int .u8 0),(.int .u8 0),(.int .u8 0),(.int .u8 0),(.int .u8 0),(.int .u8 0),(.int .u8 0),(.int .u8 0),(.int .u8 0),(.int .u8 0),(.int .u8 0),(.int .u8 0),(.int .u8 0),(.int .u8 0),(.int .u8 0),(.int .u8 0),(.int .u8 0),(.int .u8 0),(.int .u8 0),(.int .u8 0),(.int .u8 0),(.int .u8 0)]
abbrev iSm (n:Nat):RO:=.s (.mv (.t (.of n)))
abbrev iQm (n m:Nat):RO:=.q (.of n) (.mv (.s m))
abbrev iQo (n:Nat) (o:PO):RO:=.q (.of n) o
abbrev iPf (n:Nat) (o:PO):RO:=.p .push (some (.s n,false)) o
abbrev iPt (n:Nat) (o:PO):RO:=.p .push (some (.s n,true)) o
abbrev iCa (n:Nat) (l:List Arg):RO:=.w .push none (.call (.c (.fn n (.of n) [])) l)
abbrev iWl (n:Nat) (o:WO):RO:=.w (.loc (.of n)) none o
abbrev iSr (l:List RO) (c:IR):IR:=.seq (.reg l) c
def fr1 (x0:AV):T AV:=(.n .e x0 .e)
def fr2 (x0 x1:AV):T AV:=(.n (.n .e x1 .e) x0 .e)
def fr3 (x0 x1 x2:AV):T AV:=(.n (.n .e x1 .e) x0 (.n .e x2 .e))
def fr4 (x0 x1 x2 x3:AV):T AV:=(.n (.n (.n .e x3 .e) x1 .e) x0 (.n .e x2 .e))
def fr5 (x0 x1 x2 x3 x4:AV):T AV:=(.n (.n (.n .e x3 .e) x1 .e) x0 (.n (.n .e x4 .e) x2 .e))
def fr6 (x0 x1 x2 x3 x4 x5:AV):T AV:=(.n (.n (.n .e x3 .e) x1 (.n .e x5 .e)) x0 (.n (.n .e x4 .e) x2 .e))
def fr7 (x0 x1 x2 x3 x4 x5 x6:AV):T AV:=(.n (.n (.n .e x3 .e) x1 (.n .e x5 .e)) x0 (.n (.n .e x4 .e) x2 (.n .e x6 .e)))
def fr8 (x0 x1 x2 x3 x4 x5 x6 x7:AV):T AV:=(.n (.n (.n (.n .e x7 .e) x3 .e) x1 (.n .e x5 .e)) x0 (.n (.n .e x4 .e) x2 (.n .e x6 .e)))
def fr9 (x0 x1 x2 x3 x4 x5 x6 x7 x8:AV):T AV:=(.n (.n (.n (.n .e x7 .e) x3 .e) x1 (.n .e x5 .e)) x0 (.n (.n (.n .e x8 .e) x4 .e) x2 (.n .e x6 .e)))
def fr10 (x0 x1 x2 x3 x4 x5 x6 x7 x8 x9:AV):T AV:=(.n (.n (.n (.n .e x7 .e) x3 .e) x1 (.n (.n .e x9 .e) x5 .e)) x0 (.n (.n (.n .e x8 .e) x4 .e) x2 (.n .e x6 .e)))
def fr11 (x0 x1 x2 x3 x4 x5 x6 x7 x8 x9 x10:AV):T AV:=(.n (.n (.n (.n .e x7 .e) x3 .e) x1 (.n (.n .e x9 .e) x5 .e)) x0 (.n (.n (.n .e x8 .e) x4 .e) x2 (.n (.n .e x10 .e) x6 .e)))
def fr12 (x0 x1 x2 x3 x4 x5 x6 x7 x8 x9 x10 x11:AV):T AV:=(.n (.n (.n (.n .e x7 .e) x3 (.n .e x11 .e)) x1 (.n (.n .e x9 .e) x5 .e)) x0 (.n (.n (.n .e x8 .e) x4 .e) x2 (.n (.n .e x10 .e) x6 .e)))
def fr13 (x0 x1 x2 x3 x4 x5 x6 x7 x8 x9 x10 x11 x12:AV):T AV:=(.n (.n (.n (.n .e x7 .e) x3 (.n .e x11 .e)) x1 (.n (.n .e x9 .e) x5 .e)) x0 (.n (.n (.n .e x8 .e) x4 (.n .e x12 .e)) x2 (.n (.n .e x10 .e) x6 .e)))
def fr14 (x0 x1 x2 x3 x4 x5 x6 x7 x8 x9 x10 x11 x12 x13:AV):T AV:=(.n (.n (.n (.n .e x7 .e) x3 (.n .e x11 .e)) x1 (.n (.n .e x9 .e) x5 (.n .e x13 .e))) x0 (.n (.n (.n .e x8 .e) x4 (.n .e x12 .e)) x2 (.n (.n .e x10 .e) x6 .e)))
def fr19 (x0 x1 x2 x3 x4 x5 x6 x7 x8 x9 x10 x11 x12 x13 x14 x15 x16 x17 x18:AV):T AV:=(.n (.n (.n (.n (.n .e x15 .e) x7 .e) x3 (.n .e x11 .e)) x1 (.n (.n (.n .e x17 .e) x9 .e) x5 (.n .e x13 .e))) x0 (.n (.n (.n (.n .e x16 .e) x8 .e) x4 (.n .e x12 .e)) x2 (.n (.n (.n .e x18 .e) x10 .e) x6 (.n .e x14 .e))))
def fr20 (x0 x1 x2 x3 x4 x5 x6 x7 x8 x9 x10 x11 x12 x13 x14 x15 x16 x17 x18 x19:AV):T AV:=(.n (.n (.n (.n (.n .e x15 .e) x7 .e) x3 (.n (.n .e x19 .e) x11 .e)) x1 (.n (.n (.n .e x17 .e) x9 .e) x5 (.n .e x13 .e))) x0 (.n (.n (.n (.n .e x16 .e) x8 .e) x4 (.n .e x12 .e)) x2 (.n (.n (.n .e x18 .e) x10 .e) x6 (.n .e x14 .e))))
def fr23 (x0 x1 x2 x3 x4 x5 x6 x7 x8 x9 x10 x11 x12 x13 x14 x15 x16 x17 x18 x19 x20 x21 x22:AV):T AV:=(.n (.n (.n (.n (.n .e x15 .e) x7 .e) x3 (.n (.n .e x19 .e) x11 .e)) x1 (.n (.n (.n .e x17 .e) x9 .e) x5 (.n (.n .e x21 .e) x13 .e))) x0 (.n (.n (.n (.n .e x16 .e) x8 .e) x4 (.n (.n .e x20 .e) x12 .e)) x2 (.n (.n (.n .e x18 .e) x10 .e) x6 (.n (.n .e x22 .e) x14 .e))))
def fr24 (x0 x1 x2 x3 x4 x5 x6 x7 x8 x9 x10 x11 x12 x13 x14 x15 x16 x17 x18 x19 x20 x21 x22 x23:AV):T AV:=(.n (.n (.n (.n (.n .e x15 .e) x7 (.n .e x23 .e)) x3 (.n (.n .e x19 .e) x11 .e)) x1 (.n (.n (.n .e x17 .e) x9 .e) x5 (.n (.n .e x21 .e) x13 .e))) x0 (.n (.n (.n (.n .e x16 .e) x8 .e) x4 (.n (.n .e x20 .e) x12 .e)) x2 (.n (.n (.n .e x18 .e) x10 .e) x6 (.n (.n .e x22 .e) x14 .e))))
def fr25 (x0 x1 x2 x3 x4 x5 x6 x7 x8 x9 x10 x11 x12 x13 x14 x15 x16 x17 x18 x19 x20 x21 x22 x23 x24:AV):T AV:=(.n (.n (.n (.n (.n .e x15 .e) x7 (.n .e x23 .e)) x3 (.n (.n .e x19 .e) x11 .e)) x1 (.n (.n (.n .e x17 .e) x9 .e) x5 (.n (.n .e x21 .e) x13 .e))) x0 (.n (.n (.n (.n .e x16 .e) x8 (.n .e x24 .e)) x4 (.n (.n .e x20 .e) x12 .e)) x2 (.n (.n (.n .e x18 .e) x10 .e) x6 (.n (.n .e x22 .e) x14 .e))))
def fr26 (x0 x1 x2 x3 x4 x5 x6 x7 x8 x9 x10 x11 x12 x13 x14 x15 x16 x17 x18 x19 x20 x21 x22 x23 x24 x25:AV):T AV:=(.n (.n (.n (.n (.n .e x15 .e) x7 (.n .e x23 .e)) x3 (.n (.n .e x19 .e) x11 .e)) x1 (.n (.n (.n .e x17 .e) x9 (.n .e x25 .e)) x5 (.n (.n .e x21 .e) x13 .e))) x0 (.n (.n (.n (.n .e x16 .e) x8 (.n .e x24 .e)) x4 (.n (.n .e x20 .e) x12 .e)) x2 (.n (.n (.n .e x18 .e) x10 .e) x6 (.n (.n .e x22 .e) x14 .e))))
def fr27 (x0 x1 x2 x3 x4 x5 x6 x7 x8 x9 x10 x11 x12 x13 x14 x15 x16 x17 x18 x19 x20 x21 x22 x23 x24 x25 x26:AV):T AV:=(.n (.n (.n (.n (.n .e x15 .e) x7 (.n .e x23 .e)) x3 (.n (.n .e x19 .e) x11 .e)) x1 (.n (.n (.n .e x17 .e) x9 (.n .e x25 .e)) x5 (.n (.n .e x21 .e) x13 .e))) x0 (.n (.n (.n (.n .e x16 .e) x8 (.n .e x24 .e)) x4 (.n (.n .e x20 .e) x12 .e)) x2 (.n (.n (.n .e x18 .e) x10 (.n .e x26 .e)) x6 (.n (.n .e x22 .e) x14 .e))))
def fr31 (x0 x1 x2 x3 x4 x5 x6 x7 x8 x9 x10 x11 x12 x13 x14 x15 x16 x17 x18 x19 x20 x21 x22 x23 x24 x25 x26 x27 x28 x29 x30:AV):T AV:=(.n (.n (.n (.n (.n .e x15 .e) x7 (.n .e x23 .e)) x3 (.n (.n .e x19 .e) x11 (.n .e x27 .e))) x1 (.n (.n (.n .e x17 .e) x9 (.n .e x25 .e)) x5 (.n (.n .e x21 .e) x13 (.n .e x29 .e)))) x0 (.n (.n (.n (.n .e x16 .e) x8 (.n .e x24 .e)) x4 (.n (.n .e x20 .e) x12 (.n .e x28 .e))) x2 (.n (.n (.n .e x18 .e) x10 (.n .e x26 .e)) x6 (.n (.n .e x22 .e) x14 (.n .e x30 .e)))))
def fr59 (x0 x1 x2 x3 x4 x5 x6 x7 x8 x9 x10 x11 x12 x13 x14 x15 x16 x17 x18 x19 x20 x21 x22 x23 x24 x25 x26 x27 x28 x29 x30 x31 x32 x33 x34 x35 x36 x37 x38 x39 x40 x41 x42 x43 x44 x45 x46 x47 x48 x49 x50 x51 x52 x53 x54 x55 x56 x57 x58:AV):T AV:=(.n (.n (.n (.n (.n (.n .e x31 .e) x15 (.n .e x47 .e)) x7 (.n (.n .e x39 .e) x23 (.n .e x55 .e))) x3 (.n (.n (.n .e x35 .e) x19 (.n .e x51 .e)) x11 (.n (.n .e x43 .e) x27 .e))) x1 (.n (.n (.n (.n .e x33 .e) x17 (.n .e x49 .e)) x9 (.n (.n .e x41 .e) x25 (.n .e x57 .e))) x5 (.n (.n (.n .e x37 .e) x21 (.n .e x53 .e)) x13 (.n (.n .e x45 .e) x29 .e)))) x0 (.n (.n (.n (.n (.n .e x32 .e) x16 (.n .e x48 .e)) x8 (.n (.n .e x40 .e) x24 (.n .e x56 .e))) x4 (.n (.n (.n .e x36 .e) x20 (.n .e x52 .e)) x12 (.n (.n .e x44 .e) x28 .e))) x2 (.n (.n (.n (.n .e x34 .e) x18 (.n .e x50 .e)) x10 (.n (.n .e x42 .e) x26 (.n .e x58 .e))) x6 (.n (.n (.n .e x38 .e) x22 (.n .e x54 .e)) x14 (.n (.n .e x46 .e) x30 .e)))))
abbrev in1:T AV:=fr1 .undef
abbrev in2:T AV:=fr2 .undef .undef
abbrev in3:T AV:=fr3 .undef .undef .undef
abbrev in4:T AV:=fr4 .undef .undef .undef .undef
abbrev in5:T AV:=fr5 .undef .undef .undef .undef .undef
abbrev in6:T AV:=fr6 .undef .undef .undef .undef .undef .undef
abbrev in7:T AV:=fr7 .undef .undef .undef .undef .undef .undef .undef
abbrev in8:T AV:=fr8 .undef .undef .undef .undef .undef .undef .undef .undef
abbrev in9:T AV:=fr9 .undef .undef .undef .undef .undef .undef .undef .undef .undef
abbrev in10:T AV:=fr10 .undef .undef .undef .undef .undef .undef .undef .undef .undef .undef
abbrev in11:T AV:=fr11 .undef .undef .undef .undef .undef .undef .undef .undef .undef .undef .undef
abbrev in12:T AV:=fr12 .undef .undef .undef .undef .undef .undef .undef .undef .undef .undef .undef .undef
abbrev in13:T AV:=fr13 .undef .undef .undef .undef .undef .undef .undef .undef .undef .undef .undef .undef .undef
abbrev in14:T AV:=fr14 .undef .undef .undef .undef .undef .undef .undef .undef .undef .undef .undef .undef .undef .undef
abbrev in19:T AV:=fr19 .undef .undef .undef .undef .undef .undef .undef .undef .undef .undef .undef .undef .undef .undef .undef .undef .undef .undef .undef
abbrev in20:T AV:=fr20 .undef .undef .undef .undef .undef .undef .undef .undef .undef .undef .undef .undef .undef .undef .undef .undef .undef .undef .undef .undef
abbrev in23:T AV:=fr23 .undef .undef .undef .undef .undef .undef .undef .undef .undef .undef .undef .undef .undef .undef .undef .undef .undef .undef .undef .undef .undef .undef .undef
abbrev in24:T AV:=fr24 .undef .undef .undef .undef .undef .undef .undef .undef .undef .undef .undef .undef .undef .undef .undef .undef .undef .undef .undef .undef .undef .undef .undef .undef
abbrev in25:T AV:=fr25 .undef .undef .undef .undef .undef .undef .undef .undef .undef .undef .undef .undef .undef .undef .undef .undef .undef .undef .undef .undef .undef .undef .undef .undef .undef
abbrev in26:T AV:=fr26 .undef .undef .undef .undef .undef .undef .undef .undef .undef .undef .undef .undef .undef .undef .undef .undef .undef .undef .undef .undef .undef .undef .undef .undef .undef .undef
abbrev in27:T AV:=fr27 .undef .undef .undef .undef .undef .undef .undef .undef .undef .undef .undef .undef .undef .undef .undef .undef .undef .undef .undef .undef .undef .undef .undef .undef .undef .undef .undef
abbrev in31:T AV:=fr31 .undef .undef .undef .undef .undef .undef .undef .undef .undef .undef .undef .undef .undef .undef .undef .undef .undef .undef .undef .undef .undef .undef .undef .undef .undef .undef .undef .undef .undef .undef .undef
abbrev in59:T AV:=fr59 .undef .undef .undef .undef .undef .undef .undef .undef .undef .undef .undef .undef .undef .undef .undef .undef .undef .undef .undef .undef .undef .undef .undef .undef .undef .undef .undef .undef .undef .undef .undef .undef .undef .undef .undef .undef .undef .undef .undef .undef .undef .undef .undef .undef .undef .undef .undef .undef .undef .undef .undef .undef .undef .undef .undef .undef .undef .undef .undef
abbrev aT0:Arg:=.t (.of 0)
abbrev aT1:Arg:=.t (.of 1)
abbrev aT2:Arg:=.t (.of 2)
abbrev aT3:Arg:=.t (.of 3)
abbrev aT4:Arg:=.t (.of 4)
abbrev aT5:Arg:=.t (.of 5)
abbrev aT6:Arg:=.t (.of 6)
abbrev aT7:Arg:=.t (.of 7)
abbrev aT8:Arg:=.t (.of 8)
abbrev aT9:Arg:=.t (.of 9)
abbrev rC:Arg:=.t (.of 10)
abbrev su:Arg:=.t (.of 11)
abbrev aA:Arg:=.t (.of 12)
abbrev tu:Arg:=.t (.of 13)
abbrev aT14:Arg:=.t (.of 14)
abbrev aT15:Arg:=.t (.of 15)
abbrev oP:Arg:=.t (.of 16)
abbrev aI:Arg:=.t (.of 17)
abbrev aT18:Arg:=.t (.of 18)
abbrev aJ:Arg:=.t (.of 19)
abbrev aT20:Arg:=.t (.of 20)
abbrev aT21:Arg:=.t (.of 21)
abbrev aT22:Arg:=.t (.of 22)
abbrev aT23:Arg:=.t (.of 23)
abbrev aT24:Arg:=.t (.of 24)
abbrev aT25:Arg:=.t (.of 25)
abbrev aT26:Arg:=.t (.of 26)
abbrev aT27:Arg:=.t (.of 27)
abbrev aT28:Arg:=.t (.of 28)
abbrev aT29:Arg:=.t (.of 29)
abbrev aT30:Arg:=.t (.of 30)
abbrev aT31:Arg:=.t (.of 31)
abbrev aT32:Arg:=.t (.of 32)
abbrev aT33:Arg:=.t (.of 33)
abbrev aT34:Arg:=.t (.of 34)
abbrev aT35:Arg:=.t (.of 35)
abbrev aT36:Arg:=.t (.of 36)
abbrev aT37:Arg:=.t (.of 37)
abbrev aT38:Arg:=.t (.of 38)
abbrev aT39:Arg:=.t (.of 39)
abbrev aT40:Arg:=.t (.of 40)
abbrev aT41:Arg:=.t (.of 41)
abbrev aT42:Arg:=.t (.of 42)
abbrev aT43:Arg:=.t (.of 43)
abbrev aT44:Arg:=.t (.of 44)
abbrev aT45:Arg:=.t (.of 45)
abbrev aT46:Arg:=.t (.of 46)
abbrev aT47:Arg:=.t (.of 47)
abbrev aT48:Arg:=.t (.of 48)
abbrev aT49:Arg:=.t (.of 49)
abbrev aT50:Arg:=.t (.of 50)
abbrev aT51:Arg:=.t (.of 51)
abbrev aT52:Arg:=.t (.of 52)
abbrev aT53:Arg:=.t (.of 53)
abbrev aT54:Arg:=.t (.of 54)
abbrev aT55:Arg:=.t (.of 55)
abbrev aT56:Arg:=.t (.of 56)
abbrev aT57:Arg:=.t (.of 57)
abbrev aT58:Arg:=.t (.of 58)
abbrev aS0:Arg:=.s 0
abbrev aS1:Arg:=.s 1
abbrev aS2:Arg:=.s 2
abbrev aS3:Arg:=.s 3
abbrev aS4:Arg:=.s 4
abbrev aS5:Arg:=.s 5
abbrev aS6:Arg:=.s 6
abbrev aS7:Arg:=.s 7
abbrev aS8:Arg:=.s 8
abbrev aS9:Arg:=.s 9
abbrev aS10:Arg:=.s 10
abbrev aS11:Arg:=.s 11
abbrev aS12:Arg:=.s 12
abbrev aS13:Arg:=.s 13
abbrev aS14:Arg:=.s 14
abbrev aS15:Arg:=.s 15
abbrev aS16:Arg:=.s 16
abbrev aS17:Arg:=.s 17
abbrev aS18:Arg:=.s 18
abbrev aS19:Arg:=.s 19
abbrev aS20:Arg:=.s 20
abbrev aS21:Arg:=.s 21
abbrev aS22:Arg:=.s 22
abbrev aS23:Arg:=.s 23
abbrev aS24:Arg:=.s 24
abbrev aS25:Arg:=.s 25
abbrev aS26:Arg:=.s 26
abbrev aC0:Arg:=.c (I 0)
abbrev aC1:Arg:=.c (I 1)
abbrev aC2:Arg:=.c (I 2)
abbrev aC3:Arg:=.c (I 3)
abbrev aC4:Arg:=.c (I 4)
abbrev aC5:Arg:=.c (I 5)
abbrev aC6:Arg:=.c (I 6)
abbrev aC7:Arg:=.c (I 7)
abbrev aC8:Arg:=.c (I 8)
abbrev aC9:Arg:=.c (I 9)
abbrev aC10:Arg:=.c (I 10)
abbrev aC11:Arg:=.c (I 11)
abbrev aC12:Arg:=.c (I 12)
abbrev aC14:Arg:=.c (I 14)
abbrev aC16:Arg:=.c (I 16)
abbrev aC20:Arg:=.c (I 20)
abbrev aC28:Arg:=.c (I 28)
abbrev aC32:Arg:=.c (I 32)
abbrev zy5:Arg:=.c (I 100)
abbrev zy6:Arg:=.c (I 128)
abbrev zfx:Arg:=.c (I 256)
abbrev zo7:Arg:=.c (I 1024)
abbrev zo8:Arg:=.c (I 1536)
abbrev dB:Arg:=.c (I 999999999)
abbrev F3.fr:=fr59
def F3.b16:IR:=(iSr [iSm 40,.s (.zk 2 aT38 aT40),.s (.zi 2 aS0),iWl 20 (.alloc [(I 0),(I 0)]),iQm 19 2,.w .none none (.store 2 aT20 aS0)] (.seq (.yj [] [(iSm 16,0,[]),(.s (.jg 1 2 aT20 aC0),0,[]),(.s (.load aS0),0,[]),(.s (.zk 1 aS2 aS0),0,[]),(.s (.load aS0),0,[]),(iSm 16,0,[]),(.s (.jg 1 2 aT20 aC1),0,[]),(.s (.load aS0),0,[]),(.s (.zk 1 aS2 aS0),0,[]),(.s (.load aS0),0,[]),(.s (.bin .add .int aS5 aS0),0,[]),(iSm 16,0,[]),(.s (.zx 0 aT2),0,[]),(.s (.load aS0),0,[]),(iSm 19,0,[]),(.s (.bin .add .int aS1 aS0),0,[]),(.s (.zk 1 aS4 aS0),0,[]),(.s (.load aS0),0,[]),(.s (.bin .add .int aS7 aS0),0,[]),(.s (.jg 1 2 tu aC0),0,[]),(.s (.load aS0),0,[]),(.s (.bin .neq .int aS2 aS0),0,[]),(.s (.mv aS0),0,[]),(iPf 0 (.mv aI),0,[]),(iPf 1 (.jg 1 2 aT20 aC0),0,[]),(iPf 2 (.load aS0),0,[]),(iPf 3 (.zk 1 aS2 aS0),0,[]),(iPf 4 (.load aS0),0,[]),(iPf 5 (.mv aI),0,[]),(iPf 6 (.jg 1 2 aT20 aC1),0,[]),(iPf 7 (.load aS0),0,[]),(iPf 8 (.zk 1 aS2 aS0),0,[]),(iPf 9 (.load aS0),0,[]),(iPf 10 (.bin .add .int aS5 aS0),0,[]),(iPf 11 (.mv aI),0,[]),(iPf 12 (.zx 0 aT2),0,[]),(iPf 13 (.load aS0),0,[]),(iPf 14 (.mv aJ),0,[]),(iPf 15 (.bin .add .int aS1 aS0),0,[]),(iPf 16 (.zk 1 aS4 aS0),0,[]),(iPf 17 (.load aS0),0,[]),(iPf 18 (.bin .add .int aS7 aS0),0,[]),(iPf 19 (.mv aT4),0,[]),(iPf 20 (.bin .add .int aS0 aC1),0,[]),(iPf 21 (.bin .mul .int aC3 aS0),0,[]),(iPf 22 (.jg 1 2 tu aC0),0,[]),(iPf 23 (.load aS0),0,[]),(iPf 24 (.bin .sub .int aS2 aS0),0,[]),(iPf 25 (.bin .neq .int aS6 aS0),0,[]),(iQo 42 (.pick aS26 (.c (.bool true)) aS0),0,[])]) (.cond aT42 (iSr [iQo 3 (.mv (.c (.bool false)))] .ret) .skip)))
def F3.g15 (X16:IR):IR:=(.block 3 X16)
def F3.b15:IR:=F3.g15 F3.b16
def F3.b17:IR:=(.reg [.s (.bin .add .int aT40 aC1),iQm 40 0])
def F3.g14 (X15 X17:IR):IR:=(.seq X15 X17)
def F3.b14:IR:=F3.g14 F3.b15 F3.b17
def F3.g13 (X14:IR):IR:=(iSr [iQo 41 (.bin .lss .int aT40 aT39)] (.seq (.cond aT41 .skip (.exit 2)) X14))
def F3.b13:IR:=F3.g13 F3.b14
def F3.g12 (X13:IR):IR:=(.loop X13)
def F3.b12:IR:=F3.g12 F3.b13
def F3.g11 (X12:IR):IR:=(.block 2 X12)
def F3.b11:IR:=F3.g11 F3.b12
def F3.g10 (X11:IR):IR:=(iSr [.s (.zx 1 aT2),iQo 38 (.load aS0),iQo 39 (.len aT38),iQo 40 (.mv aC0)] X11)
def F3.b10:IR:=F3.g10 F3.b11
def F3.g9 (X10:IR):IR:=(iSr [.s (.zk 1 aT33 aT35),.s (.load aS0),iQm 16 0] (iSr [iSm 16,iCa 14 [aS0],.s (.mv aS0),.s (.ext 0 aS0),.s (.ext 1 aS1),iQm 17 1,iQm 18 0] (.seq (iSr [iSm 18,.s (.bin .neq .int aS0 aC0),.s (.mv aS0),iPf 0 (.mv oP),iPf 1 (.len aS0),iPf 2 (.mv aT4),iPf 3 (.bin .neq .int aS1 aS0),.s (.pick aS4 (.c (.bool true)) aS0),.s (.mv aS0),iPf 0 (.mv aI),iPf 1 (.len aS0),iPf 2 (.mv aT4),iPf 3 (.bin .neq .int aS1 aS0),iQo 37 (.pick aS4 (.c (.bool true)) aS0)] (.cond aT37 (iSr [iQo 3 (.mv (.c (.bool false)))] .ret) .skip)) X10)))
def F3.b9:IR:=F3.g9 F3.b10
def F3.g8 (X9:IR):IR:=(.block 1 X9)
def F3.b8:IR:=F3.g8 F3.b9
def F3.b18:IR:=(.reg [.s (.bin .add .int aT35 aC1),iQm 35 0])
def F3.g7 (X8 X18:IR):IR:=(.seq X8 X18)
def F3.b7:IR:=F3.g7 F3.b8 F3.b18
def F3.g6 (X7:IR):IR:=(iSr [iQo 36 (.bin .lss .int aT35 aT34)] (.seq (.cond aT36 .skip (.exit 0)) X7))
def F3.b6:IR:=F3.g6 F3.b7
def F3.g5 (X6:IR):IR:=(.loop X6)
def F3.b5:IR:=F3.g5 F3.b6
def F3.g4 (X5:IR):IR:=(.block 0 X5)
def F3.b4:IR:=F3.g4 F3.b5
def F3.b25:IR:=(iSr [.s (.zk 2 aT43 aT45),.s (.zi 2 aS0),iWl 22 (.alloc [(I 0),(I 0)]),.w .none none (.store 2 aT22 aS0)] (.reg [iSm 21,.s (.mv aS0),iPf 0 (.jg 1 2 aT22 aC0),iPf 1 (.load aS0),iPf 2 (.mv aT4),iPf 3 (.bin .add .int aS0 aC1),iPf 4 (.bin .mul .int aC3 aS0),iPf 5 (.jg 1 2 tu aC0),iPf 6 (.load aS0),iPf 7 (.bin .sub .int aS2 aS0),iPf 8 (.bin .eql .int aS6 aS0),iPf 9 (.mv aS0),iPt 0 (.jg 1 2 aT22 aC1),iPt 1 (.load aS0),iPt 2 (.jg 1 2 tu aC1),iPt 3 (.load aS0),iPt 4 (.bin .eql .int aS2 aS0),iPf 15 (.pick aS5 aS0 (.c (.bool false))),.s (.pick aS16 (.c (.bool true)) aS0),iQm 21 0]))
def F3.g24 (X25:IR):IR:=(.block 5 X25)
def F3.b24:IR:=F3.g24 F3.b25
def F3.b26:IR:=(.reg [.s (.bin .add .int aT45 aC1),iQm 45 0])
def F3.g23 (X24 X26:IR):IR:=(.seq X24 X26)
def F3.b23:IR:=F3.g23 F3.b24 F3.b26
def F3.g22 (X23:IR):IR:=(iSr [iQo 46 (.bin .lss .int aT45 aT44)] (.seq (.cond aT46 .skip (.exit 4)) X23))
def F3.b22:IR:=F3.g22 F3.b23
def F3.g21 (X22:IR):IR:=(.loop X22)
def F3.b21:IR:=F3.g21 F3.b22
def F3.g20 (X21:IR):IR:=(.block 4 X21)
def F3.b20:IR:=F3.g20 F3.b21
def F3.b27:IR:=(iSr [iSm 21,iQo 47 (.not aS0)] (.cond aT47 (iSr [iQo 3 (.mv (.c (.bool false)))] .ret) .skip))
def F3.g19 (X20 X27:IR):IR:=(iSr [iQo 21 (.mv (.c (.bool false)))] (.seq (iSr [iQo 43 (.mv aT5),iQo 44 (.len aT43),iQo 45 (.mv aC0)] X20) X27))
def F3.b19:IR:=F3.g19 F3.b20 F3.b27
def F3.g3 (X4 X19:IR):IR:=(.seq (iSr [iQo 33 (.mv aT14),iQo 34 (.len aT33),iQo 35 (.mv aC0)] X4) X19)
def F3.b3:IR:=F3.g3 F3.b4 F3.b19
def F3.b42:IR:=(iSr [iSm 56,iQm 28 0] (.seq (.yj [] [(iSm 26,0,[]),(iSm 28,0,[]),(.s (.zk 1 aS1 aS0),0,[]),(.s (.load aS0),0,[]),(iSm 27,0,[]),(iSm 28,0,[]),(.s (.zk 1 aS1 aS0),0,[]),(.s (.load aS0),0,[]),(.s (.bin .add .int aS4 aS0),0,[]),(.s (.jg 1 2 aT23 aC0),0,[]),(.s (.load aS0),0,[]),(iQo 58 (.bin .neq .int aS2 aS0),0,[])]) (.cond aT58 (iSr [iQo 3 (.mv (.c (.bool false)))] .ret) .skip)))
def F3.g41 (X42:IR):IR:=(.block 9 X42)
def F3.b41:IR:=F3.g41 F3.b42
def F3.b43:IR:=(.reg [.s (.bin .add .int aT56 aC1),iQm 56 0])
def F3.g40 (X41 X43:IR):IR:=(.seq X41 X43)
def F3.b40:IR:=F3.g40 F3.b41 F3.b43
def F3.g39 (X40:IR):IR:=(iSr [iQo 57 (.bin .lss .int aT56 aT55)] (.seq (.cond aT57 .skip (.exit 8)) X40))
def F3.b39:IR:=F3.g39 F3.b40
def F3.g38 (X39:IR):IR:=(.loop X39)
def F3.b38:IR:=F3.g38 F3.b39
def F3.g37 (X38:IR):IR:=(.block 8 X38)
def F3.b37:IR:=F3.g37 F3.b38
def F3.g36 (X37:IR):IR:=(.seq (.yj [] [(.s (.zi 2 aT2),0,[]),(iSm 26,0,[]),(.s (.zx 0 aT2),0,[]),(.s (.load aS0),0,[]),(.s (.slice 1 aS2 (some aS0) none none),0,[]),(iCa 15 [aS4,aS0],0,[]),(iQm 27 0,0,[])]) (iSr [.s (.zx 0 aT2),iQo 55 (.load aS0),iQo 56 (.mv aC0)] X37))
def F3.b36:IR:=F3.g36 F3.b37
def F3.g35 (X36:IR):IR:=(iSr [.s (.zk 1 aT50 aT52),.s (.load aS0),iQm 26 0] (.seq (iSr [iSm 26,.s (.len aS0),iSm 4,iQo 54 (.bin .neq .int aS1 aS0)] (.cond aT54 (iSr [iQo 3 (.mv (.c (.bool false)))] .ret) .skip)) X36))
def F3.b35:IR:=F3.g35 F3.b36
def F3.g34 (X35:IR):IR:=(.block 7 X35)
def F3.b34:IR:=F3.g34 F3.b35
def F3.b44:IR:=(.reg [.s (.bin .add .int aT52 aC1),iQm 52 0])
def F3.g33 (X34 X44:IR):IR:=(.seq X34 X44)
def F3.b33:IR:=F3.g33 F3.b34 F3.b44
def F3.g32 (X33:IR):IR:=(iSr [iQo 53 (.bin .lss .int aT52 aT51)] (.seq (.cond aT53 .skip (.exit 6)) X33))
def F3.b32:IR:=F3.g32 F3.b33
def F3.g31 (X32:IR):IR:=(.loop X32)
def F3.b31:IR:=F3.g31 F3.b32
def F3.g30 (X31:IR):IR:=(.block 6 X31)
def F3.b30:IR:=F3.g30 F3.b31
def F3.g29 (X30:IR):IR:=(iSr [iQo 50 (.mv aT24),iQo 51 (.len aT50),iQo 52 (.mv aC0)] X30)
def F3.b29:IR:=F3.g29 F3.b30
def F3.b45:IR:=(iSr [iCa 8 [],iQm 3 0] .ret)
def F3.g28 (X29 X45:IR):IR:=(.seq (iSr [iSm 7,.s (.len aS0),iQo 48 (.bin .gtr .int aS0 aC0)] (.cond aT48 (iSr [iSm 7,iSm 1,.s (.conv .i64 aS0),iSm 7,.s (.len aS0),.s (.bin .rem .int aS2 aS0),.s (.zk 2 aS5 aS0),.s (.zi 2 aS0),iWl 23 (.alloc [(I 0),(I 0)]),.w .none none (.store 2 aT23 aS0)] (iSr [.s (.zi 2 su),.s (.jg 1 2 aT23 aC0),.s (.load aS0),iCa 13 [aS2,aS0],.s (.mv aS0),.s (.ext 0 aS0),.s (.ext 1 aS1),iQm 24 1,iQm 25 0] (.seq (iSr [iSm 25,.s (.bin .neq .int aS0 aC0),.s (.mv aS0),iPf 0 (.mv aT24),iPf 1 (.len aS0),iPf 2 (.jg 1 2 aT23 aC1),iPf 3 (.load aS0),iPf 4 (.bin .neq .int aS2 aS0),iQo 49 (.pick aS5 (.c (.bool true)) aS0)] (.cond aT49 (iSr [iQo 3 (.mv (.c (.bool false)))] .ret) .skip)) X29))) .skip)) X45)
def F3.b28:IR:=F3.g28 F3.b29 F3.b45
def F3.g2 (X3 X28:IR):IR:=(.seq (iSr [iSm 5,.s (.len aS0),iQo 31 (.bin .gtr .int aS0 aC0)] (.cond aT31 (iSr [iSm 5,iSm 1,.s (.conv .i64 aS0),iSm 5,.s (.len aS0),.s (.bin .rem .int aS2 aS0),.s (.zk 2 aS5 aS0),.s (.zi 2 aS0),iWl 13 (.alloc [(I 0),(I 0)]),.w .none none (.store 2 tu aS0)] (iSr [.s (.zi 2 aT9),.s (.jg 1 2 tu aC0),.s (.load aS0),iCa 13 [aS2,aS0],.s (.mv aS0),.s (.ext 0 aS0),.s (.ext 1 aS1),iQm 14 1,iQm 15 0] (.seq (iSr [iSm 15,.s (.bin .neq .int aS0 aC0),.s (.mv aS0),iPf 0 (.mv aT14),iPf 1 (.len aS0),iPf 2 (.jg 1 2 tu aC1),iPf 3 (.load aS0),iPf 4 (.bin .neq .int aS2 aS0),iQo 32 (.pick aS5 (.c (.bool true)) aS0)] (.cond aT32 (iSr [iQo 3 (.mv (.c (.bool false)))] .ret) .skip)) X3))) .skip)) X28)
def F3.b2:IR:=F3.g2 F3.b3 F3.b28
def F3.g1 (X2:IR):IR:=(iSr [.s (.zx 0 aT2),.s (.load aS0),.s (.zx 1 aT2),.s (.load aS0),.s (.len aS0),.s (.bin .add .int aS3 aS0),iQm 4 0] (iSr [.s (.zi 2 aT2),iCa 9 [aS0],.s (.mv aS0),.s (.ext 0 aS0),.s (.ext 1 aS1),iQm 5 1,iQm 6 0] (iSr [.s (.zi 2 aT2),iCa 10 [aS0],.s (.mv aS0),.s (.ext 0 aS0),.s (.ext 1 aS1),iQm 7 1,iQm 8 0] (iSr [.s (.zi 2 aT2),iCa 11 [aS0],.s (.mv aS0),.s (.ext 0 aS0),.s (.ext 1 aS1),iWl 9 (.alloc [(I 0),.zh]),.w .none none (.store 2 aT9 aS1),iQm 10 0] (iSr [.s (.zi 2 aT2),iCa 12 [aS0],.s (.mv aS0),.s (.ext 0 aS0),.s (.ext 1 aS1),iWl 11 (.alloc [(I 0),.zh]),.w .none none (.store 2 su aS1),iQm 12 0] (.seq (iSr [iSm 6,iSm 8,.s (.bin .add .int aS1 aS0),iSm 10,.s (.bin .add .int aS1 aS0),iSm 12,.s (.bin .add .int aS1 aS0),.s (.bin .neq .int aS0 aC0),.s (.mv aS0),iPf 0 (.zx 0 aT9),iPf 1 (.load aS0),iPf 2 (.mv aT4),iPf 3 (.bin .neq .int aS1 aS0),.s (.pick aS4 (.c (.bool true)) aS0),.s (.mv aS0),iPf 0 (.zx 0 su),iPf 1 (.load aS0),iPf 2 (.mv aT4),iPf 3 (.bin .neq .int aS1 aS0),iQo 30 (.pick aS4 (.c (.bool true)) aS0)] (.cond aT30 (iSr [iQo 3 (.mv (.c (.bool false)))] .ret) .skip)) X2))))))
def F3.b1:IR:=F3.g1 F3.b2
def F3.g0 (X1:IR):IR:=(iSr [iWl 2 (.box aT0),iQo 3 (.mv (.c (.bool false)))] (.seq (iSr [.s (.zi 2 aT2),iCa 7 [aS0,aC5,aC5],.s (.not aS0),.s (.mv aS0),iPf 0 (.zx 0 aT2),iPf 1 (.load aS0),iPf 2 (.zx 1 aT2),iPf 3 (.load aS0),iPf 4 (.len aS0),iPf 5 (.bin .add .int aS3 aS0),iPf 6 (.bin .gtr .int aS0 aC6),.s (.pick aS7 (.c (.bool true)) aS0),.s (.mv aS0),iPf 0 (.zx 1 aT2),iPf 1 (.load aS0),iPf 2 (.len aS0),iPf 3 (.bin .eql .int aS0 aC0),iQo 29 (.pick aS4 (.c (.bool true)) aS0)] (.cond aT29 (iSr [iCa 8 [],iQm 3 0] .ret) .skip)) X1))
def F3.b0:IR:=F3.g0 F3.b1
def F3.res:List RV:=[.t (.of 3)]
def F3:Fn:={ params:=[(.of 0),(.of 1)],res:=F3.res,body:=F3.b0,init:=in59 }
theorem F3.ok:fnA Tryz.prog Tryz.f3 [0,1,2,4,5,6,7,8,9,10,11,12,13,14,15,16,18,19,20,21,22,23,25,26,27,28,30,31,32,50,97,100,124,125,126,127,128,149,151,152,153,154,207,210,211,212,213,237,240,264,265,266,267,268,274,282,283,284,297]=some F3:=by kernel_rfl
abbrev F7.fr:=fr5
def F7.b0:IR:=(iSr [iWl 3 (.box aT0),iQo 4 (.mv (.c (.bool false)))] (iSr [.s (.zx 1 aT3),.s (.load aS0),.s (.len aS0),iSm 2,.s (.bin .leq .int aS1 aS0),.s (.mv aS0),iPt 0 (.zi 2 aT3),.w .push (some (aS1,true)) (.call (.c (.fn 36 (.of 36) [])) [aS0]),iPt 2 (.bin .eql .int aS0 aC0),.s (.pick aS3 aS0 (.c (.bool false))),.s (.mv aS0),iPt 0 (.zx 0 aT3),iPt 1 (.load aS0),iPt 2 (.mv aT1),iPt 3 (.bin .leq .int aS1 aS0),.s (.pick aS4 aS0 (.c (.bool false))),iQm 4 0] .ret))
def F7.res:List RV:=[.t (.of 4)]
def F7:Fn:={ params:=[(.of 0),(.of 1),(.of 2)],res:=F7.res,body:=F7.b0,init:=in5 }
theorem F7.ok:fnA Tryz.prog Tryz.f7 [0,1,2,3,6]=some F7:=by kernel_rfl
abbrev F8.fr:=fr11
def F8.b0:IR:=(iSr [iQo 0 (.mv (.c (.bool false)))] (iSr [iCa 38 [],iCa 37 [aS0],.s (.mv aS0),.s (.ext 0 aS0),.s (.ext 1 aS1),iQm 1 1,iQm 2 0] (iSr [iCa 38 [],iCa 13 [aS0,aC5],.s (.mv aS0),.s (.ext 0 aS0),.s (.ext 1 aS1),iQm 3 1,iQm 4 0] (iSr [iSm 1,iSm 3,iCa 39 [aS1,aS0],.s (.mv aS0),.s (.ext 0 aS0),.s (.ext 1 aS1),iQm 5 1,iQm 6 0] (iSr [iSm 1,.w .push none (.zu 1 4 [(I 0)] [(0,1,aC3),(1,1,aC2),(2,1,aC4),(3,1,aC1)]),iCa 23 [aS1,aS0],.s (.mv aS0),.s (.ext 0 aS0),.s (.ext 1 aS1),iQm 7 1,iQm 8 0] (iSr [iCa 38 [],.w .push none (.zu 1 4 [(I 0)] [(0,1,aC3),(1,1,aC2),(2,1,aC4),(3,1,aC1)]),iCa 40 [aS1,aS0],.s (.mv aS0),.s (.ext 0 aS0),.s (.ext 1 aS1),iQm 9 1,iQm 10 0] (iSr [iSm 2,iSm 4,.s (.bin .add .int aS1 aS0),iSm 6,.s (.bin .add .int aS1 aS0),iSm 8,.s (.bin .add .int aS1 aS0),iSm 10,.s (.bin .add .int aS1 aS0),.s (.bin .eql .int aS0 aC0),.s (.mv aS0),iPt 0 (.mv aT1),iPt 1 (.len aS0),iPt 2 (.bin .eql .int aS0 aC8),.s (.pick aS3 aS0 (.c (.bool false))),.s (.mv aS0),iPt 0 (.mv aT3),iPt 1 (.len aS0),iPt 2 (.bin .eql .int aS0 aC8),.s (.pick aS3 aS0 (.c (.bool false))),.s (.mv aS0),iPt 0 (.mv aT5),iPt 1 (.len aS0),iPt 2 (.bin .eql .int aS0 aC1),.s (.pick aS3 aS0 (.c (.bool false))),.s (.mv aS0),iPt 0 (.mv aT5),iPt 1 (.zk 2 aS0 aC0),iPt 2 (.zx 1 aS0),iPt 3 (.load aS0),iPt 4 (.bin .eql .int aS0 aC8),.s (.pick aS5 aS0 (.c (.bool false))),.s (.mv aS0),iPt 0 (.mv aT7),.w .push (some (aS1,true)) (.zu 1 4 [(I 0)] [(0,1,aC1),(1,1,aC4),(2,1,aC2),(3,1,aC3)]),.w .push (some (aS2,true)) (.call (.c (.fn 24 (.of 24) [])) [aS1,aS0]),.s (.pick aS3 aS0 (.c (.bool false))),.s (.mv aS0),iPt 0 (.mv aT9),.s (.pick aS1 aS0 (.c (.bool false))),iQm 0 0] .ret)))))))
def F8.res:List RV:=[.t (.of 0)]
def F8:Fn:={ params:=[],res:=F8.res,body:=F8.b0,init:=in11 }
theorem F8.ok:fnA Tryz.prog Tryz.f8 [0,1,2,3,4,5,6,7,8,9,10]=some F8:=by kernel_rfl
abbrev F9.fr:=fr4
def F9.b0:IR:=(iSr [iWl 1 (.box aT0),iQo 2 (.mv (.c .zh)),iQo 3 (.mv aC0)] (iSr [.s (.zi 2 aT1),iCa 11 [aS0],.s (.ext 0 aS0),.s (.ext 1 aS1),iCa 41 [aS1,aS0],.s (.ext 0 aS0),.s (.ext 1 aS1),iQm 2 1,iQm 3 0] .ret))
def F9.res:List RV:=[.t (.of 2),.t (.of 3)]
def F9:Fn:={ params:=[(.of 0)],res:=F9.res,body:=F9.b0,init:=in4 }
theorem F9.ok:fnA Tryz.prog Tryz.f9 [0,1,2,3]=some F9:=by kernel_rfl
abbrev F10.fr:=fr4
def F10.b0:IR:=(iSr [iWl 1 (.box aT0),iQo 2 (.mv (.c .zh)),iQo 3 (.mv aC0)] (iSr [.s (.zi 2 aT1),iCa 12 [aS0],.s (.ext 0 aS0),.s (.ext 1 aS1),iCa 41 [aS1,aS0],.s (.ext 0 aS0),.s (.ext 1 aS1),iQm 2 1,iQm 3 0] .ret))
def F10.res:List RV:=[.t (.of 2),.t (.of 3)]
def F10:Fn:={ params:=[(.of 0)],res:=F10.res,body:=F10.b0,init:=in4 }
theorem F10.ok:fnA Tryz.prog Tryz.f10 [0,1,2,3]=some F10:=by kernel_rfl
abbrev F11.fr:=fr13
def F11.b7:IR:=(iSr [iSm 11,.s (.zk 2 aT9 su),.s (.zi 2 aS0),iWl 7 (.alloc [(I 0),(I 0)]),iQm 6 2,.w .none none (.store 2 aT7 aS0)] (.reg [iSm 5,.s (.jg 1 2 aT7 aC0),.s (.load aS0),.s (.jg 1 2 aT7 aC1),.s (.load aS0),.s (.zx 0 aT1),.s (.load aS0),iSm 6,.s (.bin .add .int aS1 aS0),.w .push none (.zu 1 3 [(I 0)] [(0,1,aS6),(1,1,aS4),(2,1,aS0)]),.w .push none (.zu 1 1 [.zh] [(0,1,aS0)]),.w .push none (.app 1 24 aS10 aS0),iQm 5 0]))
def F11.g6 (X7:IR):IR:=(.block 1 X7)
def F11.b6:IR:=F11.g6 F11.b7
def F11.b8:IR:=(.reg [.s (.bin .add .int su aC1),iQm 11 0])
def F11.g5 (X6 X8:IR):IR:=(.seq X6 X8)
def F11.b5:IR:=F11.g5 F11.b6 F11.b8
def F11.g4 (X5:IR):IR:=(iSr [iQo 12 (.bin .lss .int su rC)] (.seq (.cond aA .skip (.exit 0)) X5))
def F11.b4:IR:=F11.g4 F11.b5
def F11.g3 (X4:IR):IR:=(.loop X4)
def F11.b3:IR:=F11.g3 F11.b4
def F11.g2 (X3:IR):IR:=(.block 0 X3)
def F11.b2:IR:=F11.g2 F11.b3
def F11.b9:IR:=(iSr [.s (.zx 0 aT1),.s (.load aS0),.s (.zx 1 aT1),.s (.load aS0),.s (.len aS0),.s (.bin .add .int aS3 aS0),iSm 5,iCa 45 [aS1,aS0],.w .none none (.store 2 aT2 aS0),iQo 3 (.mv aC0)] .ret)
def F11.g1 (X2 X9:IR):IR:=(iSr [iQo 5 (.mv (.c .zh))] (.seq (iSr [.s (.zx 1 aT1),iQo 9 (.load aS0),iQo 10 (.len aT9),iQo 11 (.mv aC0)] X2) X9))
def F11.b1:IR:=F11.g1 F11.b2 F11.b9
def F11.g0 (X1:IR):IR:=(iSr [iWl 1 (.box aT0),iWl 2 (.alloc [(I 0),.zh]),iQo 3 (.mv aC0)] (.seq (.seq (.yj [] [(.s (.zi 2 aT1),0,[]),(.s (.zx 1 aT1),1,[]),(.s (.load aS0),1,[]),(.s (.len aS0),1,[]),(.s (.bin .eql .int aS0 aC0),1,[]),(iCa 43 [aS4],0,[]),(iCa 44 [aS1,aC12],0,[]),(.w .push none (.zu 1 2 [(I 0)] [(0,1,aS1),(1,1,aS0)]),0,[]),(iCa 42 [aS0],0,[]),(iQm 4 0,0,[])]) (iSr [iSm 4,iQo 8 (.bin .neq .int aS0 aC0)] (.cond aT8 (iSr [.s (.build [(I 0),.zh] []),iSm 4,.w .none none (.store 2 aT2 aS1),iQm 3 0] .ret) .skip))) X1))
def F11.b0:IR:=F11.g0 F11.b1
def F11.res:List RV:=[.cell (.of 2) (some 2),.t (.of 3)]
def F11:Fn:={ params:=[(.of 0)],res:=F11.res,body:=F11.b0,init:=in13 }
theorem F11.ok:fnA Tryz.prog Tryz.f11 [0,1,2,3,4,5,6,7,18,22,23,24,25]=some F11:=by kernel_rfl
abbrev F12.fr:=fr19
def F12.b13:IR:=(iSr [iSm 16,.s (.zk 2 aT14 oP),.s (.zi 2 aS0),iWl 9 (.alloc [(I 0),(I 0)]),iQm 8 2,.w .none none (.store 2 aT9 aS0)] (iSr [.s (.jg 1 2 aT9 aC0),.s (.load aS0),iSm 6,.s (.bin .eql .int aS1 aS0),.s (.mv aS0),iPf 0 (.jg 1 2 aT9 aC1),iPf 1 (.load aS0),iPf 2 (.mv aT6),iPf 3 (.bin .eql .int aS1 aS0),iQo 18 (.pick aS4 (.c (.bool true)) aS0)] (.cond aT18 (.reg [iSm 7,.s (.zx 0 aT1),.s (.load aS0),iSm 8,.s (.bin .add .int aS1 aS0),.w .push none (.zu 1 1 [(I 0)] [(0,1,aS0)]),.w .push none (.app 1 8 aS5 aS0),iQm 7 0]) .skip)))
def F12.g12 (X13:IR):IR:=(.block 3 X13)
def F12.b12:IR:=F12.g12 F12.b13
def F12.b14:IR:=(.reg [.s (.bin .add .int oP aC1),iQm 16 0])
def F12.g11 (X12 X14:IR):IR:=(.seq X12 X14)
def F12.b11:IR:=F12.g11 F12.b12 F12.b14
def F12.g10 (X11:IR):IR:=(iSr [iQo 17 (.bin .lss .int oP aT15)] (.seq (.cond aI .skip (.exit 2)) X11))
def F12.b10:IR:=F12.g10 F12.b11
def F12.g9 (X10:IR):IR:=(.loop X10)
def F12.b9:IR:=F12.g9 F12.b10
def F12.g8 (X9:IR):IR:=(.block 2 X9)
def F12.b8:IR:=F12.g8 F12.b9
def F12.b15:IR:=(.reg [iSm 5,iSm 7,.w .push none (.zu 1 1 [.zh] [(0,1,aS0)]),.w .push none (.app 1 24 aS2 aS0),iQm 5 0])
def F12.g7 (X8 X15:IR):IR:=(iSr [iSm 12,iQm 6 0] (iSr [iSm 6,.w .push none (.zu 1 1 [(I 0)] [(0,1,aS0)]),iQm 7 0] (.seq (iSr [.s (.zx 1 aT1),iQo 14 (.load aS0),iQo 15 (.len aT14),iQo 16 (.mv aC0)] X8) X15)))
def F12.b7:IR:=F12.g7 F12.b8 F12.b15
def F12.g6 (X7:IR):IR:=(.block 1 X7)
def F12.b6:IR:=F12.g6 F12.b7
def F12.b16:IR:=(.reg [.s (.bin .add .int aA aC1),iQm 12 0])
def F12.g5 (X6 X16:IR):IR:=(.seq X6 X16)
def F12.b5:IR:=F12.g5 F12.b6 F12.b16
def F12.g4 (X5:IR):IR:=(iSr [iQo 13 (.bin .lss .int aA su)] (.seq (.cond tu .skip (.exit 0)) X5))
def F12.b4:IR:=F12.g4 F12.b5
def F12.g3 (X4:IR):IR:=(.loop X4)
def F12.b3:IR:=F12.g3 F12.b4
def F12.g2 (X3:IR):IR:=(.block 0 X3)
def F12.b2:IR:=F12.g2 F12.b3
def F12.b17:IR:=(iSr [.s (.zx 0 aT1),.s (.load aS0),.s (.zx 1 aT1),.s (.load aS0),.s (.len aS0),.s (.bin .add .int aS3 aS0),iSm 5,iCa 45 [aS1,aS0],.w .none none (.store 2 aT2 aS0),iQo 3 (.mv aC0)] .ret)
def F12.g1 (X2 X17:IR):IR:=(iSr [iQo 5 (.mv (.c .zh))] (.seq (iSr [.s (.zx 0 aT1),iQo 11 (.load aS0),iQo 12 (.mv aC0)] X2) X17))
def F12.b1:IR:=F12.g1 F12.b2 F12.b17
def F12.g0 (X1:IR):IR:=(iSr [iWl 1 (.box aT0),iWl 2 (.alloc [(I 0),.zh]),iQo 3 (.mv aC0)] (.seq (iSr [.s (.zi 2 aT1),iCa 43 [aS0],iQm 4 0] (iSr [iSm 4,iQo 10 (.bin .neq .int aS0 aC0)] (.cond rC (iSr [.s (.build [(I 0),.zh] []),iSm 4,.w .none none (.store 2 aT2 aS1),iQm 3 0] .ret) .skip))) X1))
def F12.b0:IR:=F12.g0 F12.b1
def F12.res:List RV:=[.cell (.of 2) (some 2),.t (.of 3)]
def F12:Fn:={ params:=[(.of 0)],res:=F12.res,body:=F12.b0,init:=in19 }
theorem F12.ok:fnA Tryz.prog Tryz.f12 [0,1,2,3,4,5,6,7,8,9,13,17,18,19,24,25,26,27,40]=some F12:=by kernel_rfl
abbrev F13.fr:=fr12
def F13.b4:IR:=(.reg [iQo 7 (.mv rC)])
def F13.b7:IR:=(.yj [] [(.s (.load aT6),2,[]),(iSm 7,0,[]),(iCa 48 [aS0],0,[]),(.w .push none (.zu 1 1 [.zh] [(0,1,aS0)]),0,[]),(.w .push none (.app 1 24 aS3 aS0),0,[]),(.w .none none (.store 1 aT6 aS0),0,[])])
def F13.g6 (X7:IR):IR:=(.seq (iSr [.s (.load aT6),.s (.len aS0),iQo 11 (.bin .eql .int aS0 zo7)] (.cond su (iSr [.w .none none (.store 1 aT3 (.c .zh)),.w .none none (.store 1 aT4 aC5)] .ret) .skip)) X7)
def F13.b6:IR:=F13.g6 F13.b7
def F13.g5 (X6:IR):IR:=(.block 1 X6)
def F13.b5:IR:=F13.g5 F13.b6
def F13.g3 (X4 X5:IR):IR:=(.rf aT9 [(.of 10)] X4 X5)
def F13.b3:IR:=F13.g3 F13.b4 F13.b5
def F13.g2 (X3:IR):IR:=(.block 0 X3)
def F13.b2:IR:=F13.g2 F13.b3
def F13.b8:IR:=(iSr [.s (.load aT6),.w .none none (.store 1 aT3 aS0),.w .none none (.store 1 aT4 aC0)] .ret)
def F13.g1 (X2 X8:IR):IR:=(iSr [iWl 6 (.alloc [.zh])] (.seq (iSr [.s (.zi 2 aT2),iSm 1,iWl 9 (.call (.c (.fn 47 (.of 47) [])) [aS1,aS0])] X2) X8))
def F13.b1:IR:=F13.g1 F13.b2 F13.b8
def F13.g0 (X1:IR):IR:=(iSr [iWl 2 (.box aT0),iWl 3 (.alloc [.zh]),iWl 4 (.alloc [(I 0)])] (.seq (iSr [.s (.zi 2 aT2),iCa 46 [aS0],iQm 5 0] (iSr [iSm 5,iQo 8 (.bin .neq .int aS0 aC0)] (.cond aT8 (iSr [iSm 5,.w .none none (.store 1 aT3 (.c .zh)),.w .none none (.store 1 aT4 aS0)] .ret) .skip))) X1))
def F13.b0:IR:=F13.g0 F13.b1
def F13.res:List RV:=[.cell (.of 3) none,.cell (.of 4) none]
def F13:Fn:={ params:=[(.of 0),(.of 1)],res:=F13.res,body:=F13.b0,init:=in12 }
theorem F13.ok:fnA Tryz.prog Tryz.f13 [0,1,2,4,5,6,7,8,12,16,17,20]=some F13:=by kernel_rfl
abbrev F14.fr:=fr6
def F14.b1:IR:=(iSr [.s (.load aT1),.s (.len aS0),.s (.fn 52 (.of 52) [aT1]),iCa 51 [aS1,aS0],iQm 2 0,iQo 3 (.mv aC0)] .ret)
def F14.g0 (X1:IR):IR:=(iSr [iWl 1 (.box aT0),iQo 2 (.mv (.c .zh)),iQo 3 (.mv aC0)] (.seq (.seq (.yj [] [(.s (.load aT1),0,[]),(.s (.load aT1),1,[]),(iCa 49 [aS1],0,[]),(iCa 50 [aS1],0,[]),(.s (.not aS0),0,[]),(iCa 44 [aS0,aC14],0,[]),(.w .push none (.zu 1 2 [(I 0)] [(0,1,aS3),(1,1,aS0)]),0,[]),(iCa 42 [aS0],0,[]),(iQm 4 0,0,[])]) (iSr [iSm 4,iQo 5 (.bin .neq .int aS0 aC0)] (.cond aT5 (iSr [iSm 4,iQo 2 (.mv (.c .zh)),iQm 3 0] .ret) .skip))) X1))
def F14.b0:IR:=F14.g0 F14.b1
def F14.res:List RV:=[.t (.of 2),.t (.of 3)]
def F14:Fn:={ params:=[(.of 0)],res:=F14.res,body:=F14.b0,init:=in6 }
theorem F14.ok:fnA Tryz.prog Tryz.f14 [0,1,2,3,4,14]=some F14:=by kernel_rfl
abbrev F15.fr:=fr7
def F15.b6:IR:=(.seq (.yj [] [(iSm 4,0,[]),(.s (.zx 1 aT2),0,[]),(.s (.load aS0),0,[]),(iSm 5,0,[]),(.s (.zk 2 aS1 aS0),0,[]),(.s (.jg 1 2 aS0 aC0),0,[]),(.s (.load aS0),0,[]),(.s (.zk 1 aS6 aS0),0,[]),(.s (.load aS0),0,[]),(iSm 1,0,[]),(iSm 5,0,[]),(.s (.zk 1 aS1 aS0),0,[]),(.s (.load aS0),0,[]),(.s (.bin .add .int aS4 aS0),0,[]),(.s (.zk 1 aS13 aS7),0,[]),(.w .none none (.store 1 aS0 aS1),0,[])]) (.yj [] [(iSm 4,0,[]),(.s (.zx 1 aT2),0,[]),(.s (.load aS0),0,[]),(iSm 5,0,[]),(.s (.zk 2 aS1 aS0),0,[]),(.s (.jg 1 2 aS0 aC1),0,[]),(.s (.load aS0),0,[]),(.s (.zk 1 aS6 aS0),0,[]),(.s (.load aS0),0,[]),(iSm 1,0,[]),(iSm 5,0,[]),(.s (.zk 1 aS1 aS0),0,[]),(.s (.load aS0),0,[]),(.s (.bin .add .int aS4 aS0),0,[]),(.s (.zk 1 aS13 aS7),0,[]),(.w .none none (.store 1 aS0 aS1),0,[])]))
def F15.g5 (X6:IR):IR:=(.block 1 X6)
def F15.b5:IR:=F15.g5 F15.b6
def F15.b7:IR:=(.reg [iSm 5,.s (.bin .add .int aS0 aC1),iQm 5 0])
def F15.g4 (X5 X7:IR):IR:=(.seq X5 X7)
def F15.b4:IR:=F15.g4 F15.b5 F15.b7
def F15.g3 (X4:IR):IR:=(.seq (iSr [iSm 5,iSm 1,.s (.len aS0),iQo 6 (.bin .lss .int aS2 aS0)] (.cond aT6 .skip (.exit 0))) X4)
def F15.b3:IR:=F15.g3 F15.b4
def F15.g2 (X3:IR):IR:=(.loop X3)
def F15.b2:IR:=F15.g2 F15.b3
def F15.g1 (X2:IR):IR:=(.block 0 X2)
def F15.b1:IR:=F15.g1 F15.b2
def F15.b8:IR:=(iSr [iSm 4,iQm 3 0] .ret)
def F15.g0 (X1 X8:IR):IR:=(iSr [iWl 2 (.box aT0),iQo 3 (.mv (.c .zh))] (iSr [.s (.zx 0 aT2),.s (.load aS0),.w .push none (.xg 1 8 [(I 0)] aS0 aS0),iQm 4 0] (.seq (iSr [iQo 5 (.mv aC0)] X1) X8)))
def F15.b0:IR:=F15.g0 F15.b1 F15.b8
def F15.res:List RV:=[.t (.of 3)]
def F15:Fn:={ params:=[(.of 0),(.of 1)],res:=F15.res,body:=F15.b0,init:=in7 }
theorem F15.ok:fnA Tryz.prog Tryz.f15 [0,1,2,4,5,6,13]=some F15:=by kernel_rfl
abbrev F23.fr:=fr7
def F23.b1:IR:=(iSr [iSm 4,.s (.zk 1 aS0 aC0),.s (.load aS0),iQm 2 0,iQo 3 (.mv aC0)] .ret)
def F23.g0 (X1:IR):IR:=(iSr [iQo 2 (.mv (.c .zh)),iQo 3 (.mv aC0)] (iSr [iSm 0,iSm 1,iCa 68 [aS1,aS0],.s (.mv aS0),.s (.ext 0 aS0),.s (.ext 1 aS1),iQm 4 1,iQm 5 0] (.seq (iSr [iSm 5,iQo 6 (.bin .neq .int aS0 aC0)] (.cond aT6 (iSr [iSm 5,iQo 2 (.mv (.c .zh)),iQm 3 0] .ret) .skip)) X1)))
def F23.b0:IR:=F23.g0 F23.b1
def F23.res:List RV:=[.t (.of 2),.t (.of 3)]
def F23:Fn:={ params:=[(.of 0),(.of 1)],res:=F23.res,body:=F23.b0,init:=in7 }
theorem F23.ok:fnA Tryz.prog Tryz.f23 [0,1,4,5,6,7,15]=some F23:=by kernel_rfl
abbrev F24.fr:=fr7
def F24.b7:IR:=(.seq (.yj [] [(iSm 0,0,[]),(iSm 3,0,[]),(.s (.zk 1 aS1 aS0),0,[]),(.s (.load aS0),0,[]),(iSm 1,0,[]),(iSm 3,0,[]),(.s (.zk 1 aS1 aS0),0,[]),(.s (.load aS0),0,[]),(iQo 6 (.bin .neq .int aS4 aS0),0,[])]) (.cond aT6 (iSr [iQo 2 (.mv (.c (.bool false)))] .ret) .skip))
def F24.g6 (X7:IR):IR:=(.block 1 X7)
def F24.b6:IR:=F24.g6 F24.b7
def F24.b8:IR:=(.reg [iSm 3,.s (.bin .add .int aS0 aC1),iQm 3 0])
def F24.g5 (X6 X8:IR):IR:=(.seq X6 X8)
def F24.b5:IR:=F24.g5 F24.b6 F24.b8
def F24.g4 (X5:IR):IR:=(.seq (iSr [iSm 3,iSm 0,.s (.len aS0),iQo 5 (.bin .lss .int aS2 aS0)] (.cond aT5 .skip (.exit 0))) X5)
def F24.b4:IR:=F24.g4 F24.b5
def F24.g3 (X4:IR):IR:=(.loop X4)
def F24.b3:IR:=F24.g3 F24.b4
def F24.g2 (X3:IR):IR:=(.block 0 X3)
def F24.b2:IR:=F24.g2 F24.b3
def F24.b9:IR:=(iSr [iQo 2 (.mv (.c (.bool true)))] .ret)
def F24.g1 (X2 X9:IR):IR:=(.seq (iSr [iQo 3 (.mv aC0)] X2) X9)
def F24.b1:IR:=F24.g1 F24.b2 F24.b9
def F24.g0 (X1:IR):IR:=(iSr [iQo 2 (.mv (.c (.bool false)))] (.seq (iSr [iSm 0,.s (.len aS0),iSm 1,.s (.len aS0),iQo 4 (.bin .neq .int aS2 aS0)] (.cond aT4 (iSr [iQo 2 (.mv (.c (.bool false)))] .ret) .skip)) X1))
def F24.b0:IR:=F24.g0 F24.b1
def F24.res:List RV:=[.t (.of 2)]
def F24:Fn:={ params:=[(.of 0),(.of 1)],res:=F24.res,body:=F24.b0,init:=in7 }
theorem F24.ok:fnA Tryz.prog Tryz.f24 [0,1,4,5,10,14,25]=some F24:=by kernel_rfl
abbrev F36.fr:=fr13
def F36.b16:IR:=(.seq (.yj [] [(.s (.zx 1 aT1),0,[]),(.s (.load aS0),0,[]),(iSm 5,0,[]),(.s (.zk 2 aS1 aS0),0,[]),(.s (.zi 2 aS0),0,[]),(.s (.zi 2 aT4),0,[]),(iQo 12 (.bin .eql (.agg 2) aS1 aS0),0,[])]) (.cond aA (iSr [iQo 2 (.mv aC9)] .ret) .skip))
def F36.g15 (X16:IR):IR:=(.block 3 X16)
def F36.b15:IR:=F36.g15 F36.b16
def F36.b17:IR:=(.reg [iSm 5,.s (.bin .add .int aS0 aC1),iQm 5 0])
def F36.g14 (X15 X17:IR):IR:=(.seq X15 X17)
def F36.b14:IR:=F36.g14 F36.b15 F36.b17
def F36.g13 (X14:IR):IR:=(.seq (iSr [iSm 5,iSm 3,iQo 11 (.bin .lss .int aS1 aS0)] (.cond su .skip (.exit 2))) X14)
def F36.b13:IR:=F36.g13 F36.b14
def F36.g12 (X13:IR):IR:=(.loop X13)
def F36.b12:IR:=F36.g12 F36.b13
def F36.g11 (X12:IR):IR:=(.block 2 X12)
def F36.b11:IR:=F36.g11 F36.b12
def F36.g10 (X11:IR):IR:=(iSr [iQo 5 (.mv aC0)] X11)
def F36.b10:IR:=F36.g10 F36.b11
def F36.g9 (X10:IR):IR:=(.seq (iSr [.s (.jg 1 2 aT4 aC0),.s (.load aS0),.s (.jg 1 2 aT4 aC1),.s (.load aS0),iQo 10 (.bin .geq .int aS2 aS0)] (.cond rC (iSr [iQo 2 (.mv aC11)] .ret) .skip)) X10)
def F36.b9:IR:=F36.g9 F36.b10
def F36.g8 (X9:IR):IR:=(iSr [.s (.zx 1 aT1),.s (.load aS0),iSm 3,.s (.zk 2 aS1 aS0),.s (.zi 2 aS0),iWl 4 (.alloc [(I 0),(I 0)]),.w .none none (.store 2 aT4 aS0)] (.seq (iSr [.s (.jg 1 2 aT4 aC0),.s (.load aS0),.s (.bin .lss .int aS0 aC0),.s (.mv aS0),iPf 0 (.jg 1 2 aT4 aC0),iPf 1 (.load aS0),iPf 2 (.zx 0 aT1),iPf 3 (.load aS0),iPf 4 (.bin .geq .int aS2 aS0),.s (.pick aS5 (.c (.bool true)) aS0),.s (.mv aS0),iPf 0 (.jg 1 2 aT4 aC1),iPf 1 (.load aS0),iPf 2 (.bin .lss .int aS0 aC0),.s (.pick aS3 (.c (.bool true)) aS0),.s (.mv aS0),iPf 0 (.jg 1 2 aT4 aC1),iPf 1 (.load aS0),iPf 2 (.zx 0 aT1),iPf 3 (.load aS0),iPf 4 (.bin .geq .int aS2 aS0),iQo 9 (.pick aS5 (.c (.bool true)) aS0)] (.cond aT9 (iSr [iQo 2 (.mv aC10)] .ret) .skip)) X9))
def F36.b8:IR:=F36.g8 F36.b9
def F36.g7 (X8:IR):IR:=(.block 1 X8)
def F36.b7:IR:=F36.g7 F36.b8
def F36.b18:IR:=(.reg [iSm 3,.s (.bin .add .int aS0 aC1),iQm 3 0])
def F36.g6 (X7 X18:IR):IR:=(.seq X7 X18)
def F36.b6:IR:=F36.g6 F36.b7 F36.b18
def F36.g5 (X6:IR):IR:=(.seq (iSr [iSm 3,.s (.zx 1 aT1),.s (.load aS0),.s (.len aS0),iQo 8 (.bin .lss .int aS3 aS0)] (.cond aT8 .skip (.exit 0))) X6)
def F36.b5:IR:=F36.g5 F36.b6
def F36.g4 (X5:IR):IR:=(.loop X5)
def F36.b4:IR:=F36.g4 F36.b5
def F36.g3 (X4:IR):IR:=(.block 0 X4)
def F36.b3:IR:=F36.g3 F36.b4
def F36.b19:IR:=(iSr [iQo 2 (.mv aC0)] .ret)
def F36.g2 (X3 X19:IR):IR:=(.seq (iSr [iQo 3 (.mv aC0)] X3) X19)
def F36.b2:IR:=F36.g2 F36.b3 F36.b19
def F36.g1 (X2:IR):IR:=(.seq (iSr [.s (.zx 1 aT1),.s (.load aS0),.s (.len aS0),iQo 7 (.bin .gtr .int aS0 aC32)] (.cond aT7 (iSr [iQo 2 (.mv aC5)] .ret) .skip)) X2)
def F36.b1:IR:=F36.g1 F36.b2
def F36.g0 (X1:IR):IR:=(iSr [iWl 1 (.box aT0),iQo 2 (.mv aC0)] (.seq (iSr [.s (.zx 0 aT1),.s (.load aS0),.s (.bin .lss .int aS0 aC1),.s (.mv aS0),iPf 0 (.zx 0 aT1),iPf 1 (.load aS0),iPf 2 (.bin .gtr .int aS0 aC16),iQo 6 (.pick aS3 (.c (.bool true)) aS0)] (.cond aT6 (iSr [iQo 2 (.mv aC3)] .ret) .skip)) X1))
def F36.b0:IR:=F36.g0 F36.b1
def F36.res:List RV:=[.t (.of 2)]
def F36:Fn:={ params:=[(.of 0)],res:=F36.res,body:=F36.b0,init:=in13 }
theorem F36.ok:fnA Tryz.prog Tryz.f36 [0,1,2,3,4,5,13,17,22,51,56,59,68]=some F36:=by kernel_rfl
abbrev F37.fr:=fr19
def F37.b7:IR:=(iSr [.s (.zk 1 aT14 oP),.s (.load aS0),iQm 7 0] (iSr [iSm 7,iSm 7,.s (.len aS0),.s (.bin .sub .int aS0 aC1),.s (.zk 1 aS3 aS0),.s (.load aS0),iQm 8 0] (.yj [] [(.s (.load aT6),2,[]),(iSm 8,2,[]),(.s (.load aT6),1,[]),(iSm 8,1,[]),(.s (.zk 1 aS1 aS0),1,[]),(.s (.load aS0),1,[]),(iSm 7,0,[]),(.w .push none (.zu 1 1 [.zh] [(0,1,aS0)]),0,[]),(.w .push none (.app 1 24 aS2 aS0),0,[]),(.s (.zk 1 aS8 aS7),0,[]),(.w .none none (.store 1 aS0 aS1),0,[])])))
def F37.g6 (X7:IR):IR:=(.block 1 X7)
def F37.b6:IR:=F37.g6 F37.b7
def F37.b8:IR:=(.reg [.s (.bin .add .int oP aC1),iQm 16 0])
def F37.g5 (X6 X8:IR):IR:=(.seq X6 X8)
def F37.b5:IR:=F37.g5 F37.b6 F37.b8
def F37.g4 (X5:IR):IR:=(iSr [iQo 17 (.bin .lss .int oP aT15)] (.seq (.cond aI .skip (.exit 0)) X5))
def F37.b4:IR:=F37.g4 F37.b5
def F37.g3 (X4:IR):IR:=(.loop X4)
def F37.b3:IR:=F37.g3 F37.b4
def F37.g2 (X3:IR):IR:=(.block 0 X3)
def F37.b2:IR:=F37.g2 F37.b3
def F37.b10:IR:=(iSr [.s (.load aT9),iQm 2 0,iQo 3 (.mv aC0)] .ret)
def F37.g9 (X10:IR):IR:=(iSr [iWl 9 (.alloc [.zh])] (iSr [.s (.zx 0 aT1),.s (.load aS0),.w .push none (.xg 1 8 [(I 0)] aS0 aS0),iWl 10 (.alloc [.zh]),.w .none none (.store 1 rC aS0)] (iSr [.s (.zx 0 aT1),.s (.load aS0),.w .push none (.xg 1 1 [(.bool false)] aS0 aS0),iWl 11 (.alloc [.zh]),.w .none none (.store 1 su aS0)] (iSr [iWl 12 (.alloc [.rY])] (iSr [.s (.fn 95 (.of 95) [aT1,aT9,rC,su,aT6,aT5,aA]),.w .none none (.store 1 aA aS0)] (.seq (iSr [.s (.load aA),.w .push none (.call aS0 [aC0]),iQo 18 (.not aS0)] (.cond aT18 (iSr [iQo 2 (.mv (.c .zh)),iQo 3 (.mv aC5)] .ret) .skip)) X10))))))
def F37.b9:IR:=F37.g9 F37.b10
def F37.g1 (X2 X9:IR):IR:=(iSr [.s (.zi 2 aT1),iCa 74 [aS0],iWl 5 (.alloc [.rY]),.w .none none (.store 1 aT5 aS0)] (iSr [.s (.zx 0 aT1),.s (.load aS0),.w .push none (.xg 1 24 [.zh] aS0 aS0),iWl 6 (.alloc [.zh]),.w .none none (.store 1 aT6 aS0)] (.seq (iSr [.s (.zx 1 aT1),iQo 14 (.load aS0),iQo 15 (.len aT14),iQo 16 (.mv aC0)] X2) X9)))
def F37.b1:IR:=F37.g1 F37.b2 F37.b9
def F37.g0 (X1:IR):IR:=(iSr [iWl 1 (.box aT0),iQo 2 (.mv (.c .zh)),iQo 3 (.mv aC0)] (.seq (.seq (.yj [] [(.s (.zi 2 aT1),0,[]),(.s (.zx 0 aT1),1,[]),(.s (.load aS0),1,[]),(.s (.bin .gtr .int aS0 aC9),1,[]),(iCa 73 [aS3],0,[]),(iCa 76 [aS1,aC20],0,[]),(.w .push none (.zu 1 2 [(I 0)] [(0,1,aS1),(1,1,aS0)]),0,[]),(iCa 72 [aS0],0,[]),(iQm 4 0,0,[])]) (iSr [iSm 4,iQo 13 (.bin .neq .int aS0 aC0)] (.cond tu (iSr [iSm 4,iQo 2 (.mv (.c .zh)),iQm 3 0] .ret) .skip))) X1))
def F37.b0:IR:=F37.g0 F37.b1
def F37.res:List RV:=[.t (.of 2),.t (.of 3)]
def F37:Fn:={ params:=[(.of 0)],res:=F37.res,body:=F37.b0,init:=in19 }
theorem F37.ok:fnA Tryz.prog Tryz.f37 [0,1,2,3,4,5,6,8,9,10,11,12,13,23,31,32,33,34,63]=some F37:=by kernel_rfl
abbrev F38.fr:=fr1
def F38.b0:IR:=(iSr [iWl 0 (.alloc [(I 0),.zh])] (iSr [.w .push none (.zu 1 2 [(I 0)] [(0,1,aC0),(1,1,aC1)]),.w .push none (.zu 1 2 [(I 0)] [(0,1,aC2),(1,1,aC3)]),.w .push none (.zu 1 2 [.zh] [(0,1,aS1),(1,1,aS0)]),.s (.build [(I 0),.zh] [(0,1,aC4),(1,1,aS0)]),.w .none none (.store 2 aT0 aS0)] .ret))
def F38.res:List RV:=[.cell (.of 0) (some 2)]
def F38:Fn:={ params:=[],res:=F38.res,body:=F38.b0,init:=in1 }
theorem F38.ok:fnA Tryz.prog Tryz.f38 [0]=some F38:=by kernel_rfl
abbrev F39.fr:=fr26
def F39.b13:IR:=(iSr [.s (.zk 1 aI aJ),.s (.load aS0),iQm 9 0] (.reg [iSm 8,iSm 9,iSm 7,.s (.zk 1 aS1 aS0),.s (.load aS0),.s (.zao false aS4 [aS0]),iQm 8 0]))
def F39.g12 (X13:IR):IR:=(.block 3 X13)
def F39.b12:IR:=F39.g12 F39.b13
def F39.b14:IR:=(.reg [.s (.bin .add .int aJ aC1),iQm 19 0])
def F39.g11 (X12 X14:IR):IR:=(.seq X12 X14)
def F39.b11:IR:=F39.g11 F39.b12 F39.b14
def F39.g10 (X11:IR):IR:=(iSr [iQo 20 (.bin .lss .int aJ aT18)] (.seq (.cond aT20 .skip (.exit 2)) X11))
def F39.b10:IR:=F39.g10 F39.b11
def F39.g9 (X10:IR):IR:=(.loop X10)
def F39.b9:IR:=F39.g9 F39.b10
def F39.g8 (X9:IR):IR:=(.block 2 X9)
def F39.b8:IR:=F39.g8 F39.b9
def F39.b15:IR:=(.reg [iSm 6,iSm 8,.s (.zk 1 aS1 aS0),.s (.load aS0),.s (.bin .add .int aS0 aC1),.s (.zk 1 aS4 aS3),.w .none none (.store 1 aS0 aS1)])
def F39.g7 (X8 X15:IR):IR:=(iSr [iSm 15,iQm 7 0] (iSr [iSm 7,iQm 8 0] (.seq (iSr [iQo 17 (.mv aT4),iQo 18 (.len aI),iQo 19 (.mv aC0)] X8) X15)))
def F39.b7:IR:=F39.g7 F39.b8 F39.b15
def F39.g6 (X7:IR):IR:=(.block 1 X7)
def F39.b6:IR:=F39.g6 F39.b7
def F39.b16:IR:=(.reg [.s (.bin .add .int aT15 aC1),iQm 15 0])
def F39.g5 (X6 X16:IR):IR:=(.seq X6 X16)
def F39.b5:IR:=F39.g5 F39.b6 F39.b16
def F39.g4 (X5:IR):IR:=(iSr [iQo 16 (.bin .lss .int aT15 aT14)] (.seq (.cond oP .skip (.exit 0)) X5))
def F39.b4:IR:=F39.g4 F39.b5
def F39.g3 (X4:IR):IR:=(.loop X4)
def F39.b3:IR:=F39.g3 F39.b4
def F39.g2 (X3:IR):IR:=(.block 0 X3)
def F39.b2:IR:=F39.g2 F39.b3
def F39.b23:IR:=(iSr [iSm 23,.s (.zk 1 aT21 aT23),.s (.load aS0),iQm 11 2,iQm 12 0] (iSr [iSm 12,iQo 25 (.bin .gtr .int aS0 aC0)] (.cond aT25 (.reg [iSm 10,iSm 1,iSm 11,.s (.zk 1 aS1 aS0),.s (.load aS0),iCa 48 [aS0],iSm 12,.s (.build [.zh,(I 0)] [(0,1,aS1),(1,1,aS0)]),.w .push none (.zu 2 1 [.zh,(I 0)] [(0,2,aS0)]),.w .push none (.appq 2 32 aS8 aS0),iQm 10 0]) .skip)))
def F39.g22 (X23:IR):IR:=(.block 5 X23)
def F39.b22:IR:=F39.g22 F39.b23
def F39.b24:IR:=(.reg [.s (.bin .add .int aT23 aC1),iQm 23 0])
def F39.g21 (X22 X24:IR):IR:=(.seq X22 X24)
def F39.b21:IR:=F39.g21 F39.b22 F39.b24
def F39.g20 (X21:IR):IR:=(iSr [iQo 24 (.bin .lss .int aT23 aT22)] (.seq (.cond aT24 .skip (.exit 4)) X21))
def F39.b20:IR:=F39.g20 F39.b21
def F39.g19 (X20:IR):IR:=(.loop X20)
def F39.b19:IR:=F39.g19 F39.b20
def F39.g18 (X19:IR):IR:=(.block 4 X19)
def F39.b18:IR:=F39.g18 F39.b19
def F39.b25:IR:=(iSr [iSm 10,iQm 2 0,iQo 3 (.mv aC0)] .ret)
def F39.g17 (X18 X25:IR):IR:=(iSr [iQo 10 (.mv (.c .zh))] (.seq (iSr [iQo 21 (.mv aT6),iQo 22 (.len aT21),iQo 23 (.mv aC0)] X18) X25))
def F39.b17:IR:=F39.g17 F39.b18 F39.b25
def F39.g1 (X2 X17:IR):IR:=(iSr [iSm 1,.s (.len aS0),.w .push none (.xg 1 8 [(I 0)] aS0 aS0),iQm 6 0] (.seq (iSr [iSm 1,iQo 14 (.len aS0),iQo 15 (.mv aC0)] X2) X17))
def F39.b1:IR:=F39.g1 F39.b2 F39.b17
def F39.g0 (X1:IR):IR:=(iSr [iQo 2 (.mv (.c .zh)),iQo 3 (.mv aC0)] (iSr [iSm 0,iSm 1,iCa 96 [aS1,aS0],.s (.mv aS0),.s (.ext 0 aS0),.s (.ext 1 aS1),iQm 4 1,iQm 5 0] (.seq (iSr [iSm 5,iQo 13 (.bin .neq .int aS0 aC0)] (.cond tu (iSr [iSm 5,iQo 2 (.mv (.c .zh)),iQm 3 0] .ret) .skip)) X1)))
def F39.b0:IR:=F39.g0 F39.b1
def F39.res:List RV:=[.t (.of 2),.t (.of 3)]
def F39:Fn:={ params:=[(.of 0),(.of 1)],res:=F39.res,body:=F39.b0,init:=in26 }
theorem F39.ok:fnA Tryz.prog Tryz.f39 [0,1,4,5,6,7,8,9,10,12,13,14,15,23,29,30,31,34,35,36,37,54,55,56,57,62]=some F39:=by kernel_rfl
abbrev F40.fr:=fr7
def F40.b1:IR:=(iSr [.s (.zi 2 aT2),iSm 1,iCa 98 [aS1,aS0],.s (.bin .lss .int aS0 aC0),iQm 3 0,iQo 4 (.mv aC0)] .ret)
def F40.g0 (X1:IR):IR:=(iSr [iWl 2 (.box aT0),iQo 3 (.mv (.c (.bool false))),iQo 4 (.mv aC0)] (.seq (iSr [.s (.zi 2 aT2),iSm 1,iCa 97 [aS1,aS0],iQm 5 0] (iSr [iSm 5,iQo 6 (.bin .neq .int aS0 aC0)] (.cond aT6 (iSr [iSm 5,iQo 3 (.mv (.c (.bool false))),iQm 4 0] .ret) .skip))) X1))
def F40.b0:IR:=F40.g0 F40.b1
def F40.res:List RV:=[.t (.of 3),.t (.of 4)]
def F40:Fn:={ params:=[(.of 0),(.of 1)],res:=F40.res,body:=F40.b0,init:=in7 }
theorem F40.ok:fnA Tryz.prog Tryz.f40 [0,1,2,4,5,6,11]=some F40:=by kernel_rfl
abbrev F41.fr:=fr6
def F41.b1:IR:=(iSr [.s (.zi 2 aT2),iCa 99 [aS0],.s (.ext 0 aS0),.s (.ext 1 aS1),iQm 3 1,iQm 4 0] .ret)
def F41.g0 (X1:IR):IR:=(iSr [iWl 2 (.box aT0),iQo 3 (.mv (.c .zh)),iQo 4 (.mv aC0)] (.seq (iSr [iSm 1,iQo 5 (.bin .neq .int aS0 aC0)] (.cond aT5 (iSr [iSm 1,iQo 3 (.mv (.c .zh)),iQm 4 0] .ret) .skip)) X1))
def F41.b0:IR:=F41.g0 F41.b1
def F41.res:List RV:=[.t (.of 3),.t (.of 4)]
def F41:Fn:={ params:=[(.of 0),(.of 1)],res:=F41.res,body:=F41.b0,init:=in6 }
theorem F41.ok:fnA Tryz.prog Tryz.f41 [0,1,2,4,5,7]=some F41:=by kernel_rfl
abbrev F42.fr:=fr8
def F42.b6:IR:=(iSr [.s (.zk 1 aT3 aT5),.s (.load aS0),iQm 2 0] (iSr [iSm 2,iQo 7 (.bin .neq .int aS0 aC0)] (.cond aT7 (iSr [iSm 2,iQm 1 0] .ret) .skip)))
def F42.g5 (X6:IR):IR:=(.block 1 X6)
def F42.b5:IR:=F42.g5 F42.b6
def F42.b7:IR:=(.reg [.s (.bin .add .int aT5 aC1),iQm 5 0])
def F42.g4 (X5 X7:IR):IR:=(.seq X5 X7)
def F42.b4:IR:=F42.g4 F42.b5 F42.b7
def F42.g3 (X4:IR):IR:=(iSr [iQo 6 (.bin .lss .int aT5 aT4)] (.seq (.cond aT6 .skip (.exit 0)) X4))
def F42.b3:IR:=F42.g3 F42.b4
def F42.g2 (X3:IR):IR:=(.loop X3)
def F42.b2:IR:=F42.g2 F42.b3
def F42.g1 (X2:IR):IR:=(.block 0 X2)
def F42.b1:IR:=F42.g1 F42.b2
def F42.b8:IR:=(iSr [iQo 1 (.mv aC0)] .ret)
def F42.g0 (X1 X8:IR):IR:=(iSr [iQo 1 (.mv aC0)] (.seq (iSr [iQo 3 (.mv aT0),iQo 4 (.len aT3),iQo 5 (.mv aC0)] X1) X8))
def F42.b0:IR:=F42.g0 F42.b1 F42.b8
def F42.res:List RV:=[.t (.of 1)]
def F42:Fn:={ params:=[(.of 0)],res:=F42.res,body:=F42.b0,init:=in8 }
theorem F42.ok:fnA Tryz.prog Tryz.f42 [0,2,4,5,6,7,8,12]=some F42:=by kernel_rfl
abbrev F43.fr:=fr14
def F43.b8:IR:=(.seq (.yj [] [(iSm 6,0,[]),(.s (.not aS0),0,[]),(.s (.jg 1 2 aT5 aC0),1,[]),(.s (.load aS0),1,[]),(.s (.jg 1 2 aT5 aC1),1,[]),(.s (.load aS0),1,[]),(.s (.bin .geq .int aS2 aS0),1,[]),(.s (.zx 1 aT1),2,[]),(.s (.load aS0),2,[]),(iSm 4,2,[]),(.s (.slice 2 aS1 none (some aS0) none),2,[]),(.s (.zi 2 aT5),2,[]),(iCa 44 [aS10,aC10],0,[]),(iCa 44 [aS6,aC11],0,[]),(iCa 100 [aS3,aS2],0,[]),(iCa 44 [aS0,aC9],0,[]),(.w .push none (.zu 1 3 [(I 0)] [(0,1,aS3),(1,1,aS2),(2,1,aS0)]),0,[]),(iCa 42 [aS0],0,[]),(iQm 7 0,0,[])]) (iSr [iSm 7,iQo 13 (.bin .neq .int aS0 aC0)] (.cond tu (iSr [iSm 7,iQm 2 0] .ret) .skip)))
def F43.g7 (X8:IR):IR:=(iSr [iSm 11,.s (.zk 2 aT9 su),.s (.zi 2 aS0),iWl 5 (.alloc [(I 0),(I 0)]),iQm 4 2,.w .none none (.store 2 aT5 aS0)] (iSr [.s (.jg 1 2 aT5 aC0),.s (.load aS0),.s (.bin .geq .int aS0 aC0),.s (.mv aS0),iPt 0 (.jg 1 2 aT5 aC0),iPt 1 (.load aS0),iPt 2 (.zx 0 aT1),iPt 3 (.load aS0),iPt 4 (.bin .lss .int aS2 aS0),.s (.pick aS5 aS0 (.c (.bool false))),.s (.mv aS0),iPt 0 (.jg 1 2 aT5 aC1),iPt 1 (.load aS0),iPt 2 (.bin .geq .int aS0 aC0),.s (.pick aS3 aS0 (.c (.bool false))),.s (.mv aS0),iPt 0 (.jg 1 2 aT5 aC1),iPt 1 (.load aS0),iPt 2 (.zx 0 aT1),iPt 3 (.load aS0),iPt 4 (.bin .lss .int aS2 aS0),.s (.pick aS5 aS0 (.c (.bool false))),iQm 6 0] X8))
def F43.b7:IR:=F43.g7 F43.b8
def F43.g6 (X7:IR):IR:=(.block 1 X7)
def F43.b6:IR:=F43.g6 F43.b7
def F43.b9:IR:=(.reg [.s (.bin .add .int su aC1),iQm 11 0])
def F43.g5 (X6 X9:IR):IR:=(.seq X6 X9)
def F43.b5:IR:=F43.g5 F43.b6 F43.b9
def F43.g4 (X5:IR):IR:=(iSr [iQo 12 (.bin .lss .int su rC)] (.seq (.cond aA .skip (.exit 0)) X5))
def F43.b4:IR:=F43.g4 F43.b5
def F43.g3 (X4:IR):IR:=(.loop X4)
def F43.b3:IR:=F43.g3 F43.b4
def F43.g2 (X3:IR):IR:=(.block 0 X3)
def F43.b2:IR:=F43.g2 F43.b3
def F43.b10:IR:=(iSr [iQo 2 (.mv aC0)] .ret)
def F43.g1 (X2 X10:IR):IR:=(.seq (iSr [.s (.zx 1 aT1),iQo 9 (.load aS0),iQo 10 (.len aT9),iQo 11 (.mv aC0)] X2) X10)
def F43.b1:IR:=F43.g1 F43.b2 F43.b10
def F43.g0 (X1:IR):IR:=(iSr [iWl 1 (.box aT0),iQo 2 (.mv aC0)] (.seq (.seq (.yj [] [(.s (.zx 0 aT1),0,[]),(.s (.load aS0),0,[]),(.s (.zx 1 aT1),2,[]),(.s (.load aS0),2,[]),(.s (.len aS0),2,[]),(.s (.bin .gtr .int aS0 aC32),2,[]),(.w .push none (.zu 1 1 [(I 0)] [(0,1,aS4)]),0,[]),(iCa 70 [aC1,aC16,aS0],0,[]),(iCa 44 [aS2,aC5],0,[]),(.w .push none (.zu 1 2 [(I 0)] [(0,1,aS1),(1,1,aS0)]),0,[]),(iCa 42 [aS0],0,[]),(iQm 3 0,0,[])]) (iSr [iSm 3,iQo 8 (.bin .neq .int aS0 aC0)] (.cond aT8 (iSr [iSm 3,iQm 2 0] .ret) .skip))) X1))
def F43.b0:IR:=F43.g0 F43.b1
def F43.res:List RV:=[.t (.of 2)]
def F43:Fn:={ params:=[(.of 0)],res:=F43.res,body:=F43.b0,init:=in14 }
theorem F43.ok:fnA Tryz.prog Tryz.f43 [0,1,2,3,4,5,6,7,20,23,24,25,26,71]=some F43:=by kernel_rfl
abbrev F44.fr:=fr4
def F44.b1:IR:=(iSr [iQo 2 (.mv aC0)] .ret)
def F44.g0 (X1:IR):IR:=(iSr [iQo 2 (.mv aC0)] (.seq (iSr [iQo 3 (.mv aT0)] (.cond aT3 (iSr [iSm 1,iQm 2 0] .ret) .skip)) X1))
def F44.b0:IR:=F44.g0 F44.b1
def F44.res:List RV:=[.t (.of 2)]
def F44:Fn:={ params:=[(.of 0),(.of 1)],res:=F44.res,body:=F44.b0,init:=in4 }
theorem F44.ok:fnA Tryz.prog Tryz.f44 [0,1,4,5]=some F44:=by kernel_rfl
abbrev F45.fr:=fr12
def F45.b6:IR:=(iSr [.s (.zk 1 aT7 aT9),.s (.load aS0),iQm 5 0] (iSr [iSm 5,iCa 102 [aS0],iCa 101 [aS0],iQm 5 0] (iSr [iSm 5,iCa 103 [aS0],iQm 6 0] (iSr [iSm 3,iSm 6,.s (.look .str (.bool false) false aS1 aS0),iQo 11 (.not aS0)] (.cond su (iSr [iSm 3,iSm 6,.w .none none (.zaq .str aS1 aS0 (.c (.bool true)))] (.reg [.s (.zx 1 aT4),.s (.load aS0),iSm 5,.w .push none (.zu 1 1 [.zh] [(0,1,aS0)]),.w .push none (.app 1 24 aS2 aS0),.s (.zx 1 aT4),.w .none none (.store 1 aS0 aS1)])) .skip)))))
def F45.g5 (X6:IR):IR:=(.block 1 X6)
def F45.b5:IR:=F45.g5 F45.b6
def F45.b7:IR:=(.reg [.s (.bin .add .int aT9 aC1),iQm 9 0])
def F45.g4 (X5 X7:IR):IR:=(.seq X5 X7)
def F45.b4:IR:=F45.g4 F45.b5 F45.b7
def F45.g3 (X4:IR):IR:=(iSr [iQo 10 (.bin .lss .int aT9 aT8)] (.seq (.cond rC .skip (.exit 0)) X4))
def F45.b3:IR:=F45.g3 F45.b4
def F45.g2 (X3:IR):IR:=(.loop X3)
def F45.b2:IR:=F45.g2 F45.b3
def F45.g1 (X2:IR):IR:=(.block 0 X2)
def F45.b1:IR:=F45.g1 F45.b2
def F45.b8:IR:=(iSr [.s (.zi 2 aT4),.w .none none (.store 2 aT2 aS0)] .ret)
def F45.g0 (X1 X8:IR):IR:=(iSr [iWl 2 (.alloc [(I 0),.zh])] (iSr [.w .push none .sU,iQm 3 0] (iSr [iSm 0,.s (.build [(I 0),.zh] [(0,1,aS0)]),iWl 4 (.alloc [(I 0),.zh]),.w .none none (.store 2 aT4 aS0)] (.seq (iSr [iQo 7 (.mv aT1),iQo 8 (.len aT7),iQo 9 (.mv aC0)] X1) X8))))
def F45.b0:IR:=F45.g0 F45.b1 F45.b8
def F45.res:List RV:=[.cell (.of 2) (some 2)]
def F45:Fn:={ params:=[(.of 0),(.of 1)],res:=F45.res,body:=F45.b0,init:=in12 }
theorem F45.ok:fnA Tryz.prog Tryz.f45 [0,1,4,5,6,8,9,13,14,15,16,27]=some F45:=by kernel_rfl
abbrev F46.fr:=fr3
def F46.b0:IR:=(iSr [iWl 1 (.box aT0),iQo 2 (.mv aC0)] (.seq (.yj [] [(.s (.zi 2 aT1),0,[]),(.s (.zx 0 aT1),1,[]),(.s (.load aS0),1,[]),(.s (.bin .gtr .int aS0 aC9),1,[]),(iCa 73 [aS3],0,[]),(iCa 105 [aS1,aC20],0,[]),(.w .push none (.zu 1 2 [(I 0)] [(0,1,aS1),(1,1,aS0)]),0,[]),(iCa 104 [aS0],0,[]),(iQm 2 0,0,[])]) .ret))
def F46.res:List RV:=[.t (.of 2)]
def F46:Fn:={ params:=[(.of 0)],res:=F46.res,body:=F46.b0,init:=in3 }
theorem F46.ok:fnA Tryz.prog Tryz.f46 [0,1,2]=some F46:=by kernel_rfl
abbrev F47.fr:=fr5
def F47.b0:IR:=(iSr [iWl 2 (.box aT0),iWl 3 (.box aT1),iQo 4 (.mv (.c .rY))] (iSr [.s (.fn 106 (.of 106) [aT2,aT3]),iQm 4 0] .ret))
def F47.res:List RV:=[.t (.of 4)]
def F47:Fn:={ params:=[(.of 0),(.of 1)],res:=F47.res,body:=F47.b0,init:=in5 }
theorem F47.ok:fnA Tryz.prog Tryz.f47 [0,1,2,3,4]=some F47:=by kernel_rfl
abbrev F48.fr:=fr3
def F48.b1:IR:=(iSr [.w .push none (.zu 1 0 [(I 0)] []),iSm 0,.w .push none (.app 1 8 aS1 aS0),iQm 1 0] .ret)
def F48.g0 (X1:IR):IR:=(iSr [iQo 1 (.mv (.c .zh))] (.seq (iSr [iSm 0,iQo 2 (.bin .eql (.nil .sl) aS0 (.c .zh))] (.cond aT2 (iSr [iQo 1 (.mv (.c .zh))] .ret) .skip)) X1))
def F48.b0:IR:=F48.g0 F48.b1
def F48.res:List RV:=[.t (.of 1)]
def F48:Fn:={ params:=[(.of 0)],res:=F48.res,body:=F48.b0,init:=in3 }
theorem F48.ok:fnA Tryz.prog Tryz.f48 [0,2,4]=some F48:=by kernel_rfl
abbrev F49.fr:=fr2
def F49.b0:IR:=(iSr [iQo 1 (.mv aC0)] (iSr [iSm 0,.s (.len aS0),.s (.bin .eql .int aS0 aC0),iCa 44 [aS0,aC12],iSm 0,.s (.len aS0),.s (.bin .gtr .int aS0 zfx),iCa 44 [aS0,aC5],iSm 0,iCa 109 [aS0],.w .push none (.zu 1 3 [(I 0)] [(0,1,aS6),(1,1,aS2),(2,1,aS0)]),iCa 42 [aS0],iQm 1 0] .ret))
def F49.res:List RV:=[.t (.of 1)]
def F49:Fn:={ params:=[(.of 0)],res:=F49.res,body:=F49.b0,init:=in2 }
theorem F49.ok:fnA Tryz.prog Tryz.f49 [0,2]=some F49:=by kernel_rfl
abbrev F50.fr:=fr9
def F50.b6:IR:=(iSr [iSm 6,.s (.zk 1 aT4 aT6),.s (.load aS0),iQm 2 2,iQm 3 0] (iSr [iSm 3,iSm 2,.s (.bin .add .int aS0 aC1),iQo 8 (.bin .neq .int aS2 aS0)] (.cond aT8 (iSr [iQo 1 (.mv (.c (.bool false)))] .ret) .skip)))
def F50.g5 (X6:IR):IR:=(.block 1 X6)
def F50.b5:IR:=F50.g5 F50.b6
def F50.b7:IR:=(.reg [.s (.bin .add .int aT6 aC1),iQm 6 0])
def F50.g4 (X5 X7:IR):IR:=(.seq X5 X7)
def F50.b4:IR:=F50.g4 F50.b5 F50.b7
def F50.g3 (X4:IR):IR:=(iSr [iQo 7 (.bin .lss .int aT6 aT5)] (.seq (.cond aT7 .skip (.exit 0)) X4))
def F50.b3:IR:=F50.g3 F50.b4
def F50.g2 (X3:IR):IR:=(.loop X3)
def F50.b2:IR:=F50.g2 F50.b3
def F50.g1 (X2:IR):IR:=(.block 0 X2)
def F50.b1:IR:=F50.g1 F50.b2
def F50.b8:IR:=(iSr [iQo 1 (.mv (.c (.bool true)))] .ret)
def F50.g0 (X1 X8:IR):IR:=(iSr [iQo 1 (.mv (.c (.bool false)))] (.seq (iSr [iSm 0,iCa 102 [aS0],iWl 4 (.call (.c (.fn 101 (.of 101) [])) [aS0]),iQo 5 (.len aT4),iQo 6 (.mv aC0)] X1) X8))
def F50.b0:IR:=F50.g0 F50.b1 F50.b8
def F50.res:List RV:=[.t (.of 1)]
def F50:Fn:={ params:=[(.of 0)],res:=F50.res,body:=F50.b0,init:=in9 }
theorem F50.ok:fnA Tryz.prog Tryz.f50 [0,2,3,4,7,8,9,10,17]=some F50:=by kernel_rfl
abbrev F51.fr:=fr8
def F51.b6:IR:=(iSr [iSm 6,iQm 4 0] (.reg [iSm 3,iSm 4,iSm 1,iSm 4,.w .push none (.call aS1 [aS0]),.s (.zk 1 aS4 aS3),.w .none none (.store 1 aS0 aS1)]))
def F51.g5 (X6:IR):IR:=(.block 1 X6)
def F51.b5:IR:=F51.g5 F51.b6
def F51.b7:IR:=(.reg [.s (.bin .add .int aT6 aC1),iQm 6 0])
def F51.g4 (X5 X7:IR):IR:=(.seq X5 X7)
def F51.b4:IR:=F51.g4 F51.b5 F51.b7
def F51.g3 (X4:IR):IR:=(iSr [iQo 7 (.bin .lss .int aT6 aT5)] (.seq (.cond aT7 .skip (.exit 0)) X4))
def F51.b3:IR:=F51.g3 F51.b4
def F51.g2 (X3:IR):IR:=(.loop X3)
def F51.b2:IR:=F51.g2 F51.b3
def F51.g1 (X2:IR):IR:=(.block 0 X2)
def F51.b1:IR:=F51.g1 F51.b2
def F51.b8:IR:=(iSr [iSm 3,iQm 2 0] .ret)
def F51.g0 (X1 X8:IR):IR:=(iSr [iQo 2 (.mv (.c .zh))] (iSr [iSm 0,.w .push none (.xg 1 8 [(I 0)] aS0 aS0),iQm 3 0] (.seq (iSr [iSm 3,iQo 5 (.len aS0),iQo 6 (.mv aC0)] X1) X8)))
def F51.b0:IR:=F51.g0 F51.b1 F51.b8
def F51.res:List RV:=[.t (.of 2)]
def F51:Fn:={ params:=[(.of 0),(.of 1)],res:=F51.res,body:=F51.b0,init:=in8 }
theorem F51.ok:fnA Tryz.prog Tryz.f51 [0,1,4,5,6,10,11,12]=some F51:=by kernel_rfl
abbrev F52.fr:=fr3
def F52.b0:IR:=(iSr [iQo 2 (.mv aC0)] (.seq (.yj [] [(.s (.load aT1),0,[]),(.s (.len aS0),0,[]),(.s (.bin .add .int aS0 aC1),0,[]),(.s (.load aT1),0,[]),(iSm 0,0,[]),(.s (.zk 1 aS1 aS0),0,[]),(.s (.load aS0),0,[]),(.s (.bin .sub .int aS4 aS0),0,[]),(iQm 2 0,0,[])]) .ret))
def F52.res:List RV:=[.t (.of 2)]
def F52:Fn:={ params:=[(.of 0),(.of 1)],res:=F52.res,body:=F52.b0,init:=in3 }
theorem F52.ok:fnA Tryz.prog Tryz.f52 [0,1,3]=some F52:=by kernel_rfl
end
end Go.Ev
