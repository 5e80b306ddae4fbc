import Derived.Test.YtbghckepkajplabGreatDoorEvC
import Derived.Test.YtbghckepkajplabGreatDoorProg
import Derived.KernelRfl
set_option linter.unusedSimpArgs false
set_option linter.unusedVariables false
namespace Go.Ev
open Go
inductive HT (α:Type) where
  | l (x:α) | b (x y:HT α)
abbrev Rd (α:Type):=Nat->α×Nat
noncomputable section
abbrev zU:List AV:=[(.int .u8 0),(.int .u8 0),(.int .u8 0),(.int .u8 0),(.int .u8 0),(.int .u8 0),(.int .u8 0),(.int .u8 0),(.int .u8 0),(.int .u8 0),(.int .u8 0),(.int .u8 0),(.int .u8 0),(.int .u8 0),(.int .u8 0),(.int .u8 0),(.int .u8 0),(.int .u8 0),(.int .u8 0),(.int .u8 0),(.int .u8 0),(.int .u8 0),(.int .u8 0),(.int .u8 0),(.int .u8 0),(.int .u8 0),(.int .u8 0),(.int .u8 0),(.int .u8 0),(.int .u8 0),(.int .u8 0),(.int .u8 0),(.int .u8 0),(.int .u8 0),(.int .u8 0),(.int .u8 0),(.int .u8 0),(.int .u8 0),(.int .u8 0),(.int .u8 0),(.int .u8 0),(.int .u8 0),(.int .u8 0),(.int .u8 0),(.int .u8 0),(.int .u8 0),(.int .u8 0),(.int .u8 0),(.int .u8 0),(.int .u8 0),(.int .u8 0),(.int .u8 0),(.int .u8 0),(.int .u8 0),(.int .u8 0),(.int .u8 0),(.int .u8 0),(.int .u8 0),(.int .u8 0),(.int .u8 0),(.int .u8 0),(.int .u8 0),(.int .u8 0),(.int .u8 0),(.int .u8 0),(.int .u8 0),(.int .u8 0),(.int .u8 0),(.int .u8 0),(.int .u8 0),(.int .u8 0),(.int .u8 0),(.int .u8 0),(.int .u8 0),(.int .u8 0),(.int .u8 0),(.int .u8 0),(.int .u8 0),(.int .u8 0),(.int .u8 0),(.int .u8 0),(.int .u8 0),(.int .u8 0),(.int .u8 0),(.int .u8 0),(.int .u8 0),(.int .u8 0),(.int .u8 0),(.int .u8 0),(.int .u8 0),(.int .u8 0),(.int .u8 0),(.int .u8 0),(.int .u8 0),(.int .u8 0),(.int .u8 0),(.int .u8 0),(.int .u8 0),(.int .u8 0),(.int .u8 0),(.int .u8 0),(.int .u8 0),(.int .u8 0),(.int .u8 0),(.int .u8 0),(.int .u8 0),(.int .u8 0),(.int .u8 0),(.int .u8 0),(.int .u8 0),(.int .u8 0),(.int .u8 0),(.int .u8 0),(.int .u8 0),(.int .u8 0),(.int .u8 0),(.int .u8 0),(.int .u8 0),(.int .u8 0),(.int .u8 0),(.int .u8 0),(.int .u8 0),(.int .u8 0),(.int .u8 0),(.int .u8 0),(.int .u8 0),(.int .u8 0),(.int .u8 0)]
abbrev iSm (n:Nat):RO:=.s (.mv (.t (.of n)))
abbrev iQm (n m:Nat):RO:=.q (.of n) (.mv (.s m))
abbrev iQo (n:Nat) (o:PO):RO:=.q (.of n) o
abbrev iPf (n:Nat) (o:PO):RO:=.p .push (some (.s n,false)) o
abbrev iPt (n:Nat) (o:PO):RO:=.p .push (some (.s n,true)) o
abbrev iCa (n:Nat) (l:List Arg):RO:=.w .push none (.call (.c (.fn n (.of n) [])) l)
abbrev iWl (n:Nat) (o:WO):RO:=.w (.loc (.of n)) none o
abbrev iSr (l:List RO) (c:IR):IR:=.seq (.reg l) c
def fr1 (x0:AV):T AV:=(.n .e x0 .e)
def fr2 (x0 x1:AV):T AV:=(.n (.n .e x1 .e) x0 .e)
def fr3 (x0 x1 x2:AV):T AV:=(.n (.n .e x1 .e) x0 (.n .e x2 .e))
def fr4 (x0 x1 x2 x3:AV):T AV:=(.n (.n (.n .e x3 .e) x1 .e) x0 (.n .e x2 .e))
def fr5 (x0 x1 x2 x3 x4:AV):T AV:=(.n (.n (.n .e x3 .e) x1 .e) x0 (.n (.n .e x4 .e) x2 .e))
def fr6 (x0 x1 x2 x3 x4 x5:AV):T AV:=(.n (.n (.n .e x3 .e) x1 (.n .e x5 .e)) x0 (.n (.n .e x4 .e) x2 .e))
def fr7 (x0 x1 x2 x3 x4 x5 x6:AV):T AV:=(.n (.n (.n .e x3 .e) x1 (.n .e x5 .e)) x0 (.n (.n .e x4 .e) x2 (.n .e x6 .e)))
def fr8 (x0 x1 x2 x3 x4 x5 x6 x7:AV):T AV:=(.n (.n (.n (.n .e x7 .e) x3 .e) x1 (.n .e x5 .e)) x0 (.n (.n .e x4 .e) x2 (.n .e x6 .e)))
def fr9 (x0 x1 x2 x3 x4 x5 x6 x7 x8:AV):T AV:=(.n (.n (.n (.n .e x7 .e) x3 .e) x1 (.n .e x5 .e)) x0 (.n (.n (.n .e x8 .e) x4 .e) x2 (.n .e x6 .e)))
def oI (x0 x1 x2 x3 x4 x5 x6 x7 x8 x9:AV):T AV:=(.n (.n (.n (.n .e x7 .e) x3 .e) x1 (.n (.n .e x9 .e) x5 .e)) x0 (.n (.n (.n .e x8 .e) x4 .e) x2 (.n .e x6 .e)))
def fr11 (x0 x1 x2 x3 x4 x5 x6 x7 x8 x9 x10:AV):T AV:=(.n (.n (.n (.n .e x7 .e) x3 .e) x1 (.n (.n .e x9 .e) x5 .e)) x0 (.n (.n (.n .e x8 .e) x4 .e) x2 (.n (.n .e x10 .e) x6 .e)))
def fr12 (x0 x1 x2 x3 x4 x5 x6 x7 x8 x9 x10 x11:AV):T AV:=(.n (.n (.n (.n .e x7 .e) x3 (.n .e x11 .e)) x1 (.n (.n .e x9 .e) x5 .e)) x0 (.n (.n (.n .e x8 .e) x4 .e) x2 (.n (.n .e x10 .e) x6 .e)))
def fr13 (x0 x1 x2 x3 x4 x5 x6 x7 x8 x9 x10 x11 x12:AV):T AV:=(.n (.n (.n (.n .e x7 .e) x3 (.n .e x11 .e)) x1 (.n (.n .e x9 .e) x5 .e)) x0 (.n (.n (.n .e x8 .e) x4 (.n .e x12 .e)) x2 (.n (.n .e x10 .e) x6 .e)))
def fr14 (x0 x1 x2 x3 x4 x5 x6 x7 x8 x9 x10 x11 x12 x13:AV):T AV:=(.n (.n (.n (.n .e x7 .e) x3 (.n .e x11 .e)) x1 (.n (.n .e x9 .e) x5 (.n .e x13 .e))) x0 (.n (.n (.n .e x8 .e) x4 (.n .e x12 .e)) x2 (.n (.n .e x10 .e) x6 .e)))
def fr15 (x0 x1 x2 x3 x4 x5 x6 x7 x8 x9 x10 x11 x12 x13 x14:AV):T AV:=(.n (.n (.n (.n .e x7 .e) x3 (.n .e x11 .e)) x1 (.n (.n .e x9 .e) x5 (.n .e x13 .e))) x0 (.n (.n (.n .e x8 .e) x4 (.n .e x12 .e)) x2 (.n (.n .e x10 .e) x6 (.n .e x14 .e))))
def fr17 (x0 x1 x2 x3 x4 x5 x6 x7 x8 x9 x10 x11 x12 x13 x14 x15 x16:AV):T AV:=(.n (.n (.n (.n (.n .e x15 .e) x7 .e) x3 (.n .e x11 .e)) x1 (.n (.n .e x9 .e) x5 (.n .e x13 .e))) x0 (.n (.n (.n (.n .e x16 .e) x8 .e) x4 (.n .e x12 .e)) x2 (.n (.n .e x10 .e) x6 (.n .e x14 .e))))
def fr18 (x0 x1 x2 x3 x4 x5 x6 x7 x8 x9 x10 x11 x12 x13 x14 x15 x16 x17:AV):T AV:=(.n (.n (.n (.n (.n .e x15 .e) x7 .e) x3 (.n .e x11 .e)) x1 (.n (.n (.n .e x17 .e) x9 .e) x5 (.n .e x13 .e))) x0 (.n (.n (.n (.n .e x16 .e) x8 .e) x4 (.n .e x12 .e)) x2 (.n (.n .e x10 .e) x6 (.n .e x14 .e))))
def fr19 (x0 x1 x2 x3 x4 x5 x6 x7 x8 x9 x10 x11 x12 x13 x14 x15 x16 x17 x18:AV):T AV:=(.n (.n (.n (.n (.n .e x15 .e) x7 .e) x3 (.n .e x11 .e)) x1 (.n (.n (.n .e x17 .e) x9 .e) x5 (.n .e x13 .e))) x0 (.n (.n (.n (.n .e x16 .e) x8 .e) x4 (.n .e x12 .e)) x2 (.n (.n (.n .e x18 .e) x10 .e) x6 (.n .e x14 .e))))
def fr20 (x0 x1 x2 x3 x4 x5 x6 x7 x8 x9 x10 x11 x12 x13 x14 x15 x16 x17 x18 x19:AV):T AV:=(.n (.n (.n (.n (.n .e x15 .e) x7 .e) x3 (.n (.n .e x19 .e) x11 .e)) x1 (.n (.n (.n .e x17 .e) x9 .e) x5 (.n .e x13 .e))) x0 (.n (.n (.n (.n .e x16 .e) x8 .e) x4 (.n .e x12 .e)) x2 (.n (.n (.n .e x18 .e) x10 .e) x6 (.n .e x14 .e))))
def fr23 (x0 x1 x2 x3 x4 x5 x6 x7 x8 x9 x10 x11 x12 x13 x14 x15 x16 x17 x18 x19 x20 x21 x22:AV):T AV:=(.n (.n (.n (.n (.n .e x15 .e) x7 .e) x3 (.n (.n .e x19 .e) x11 .e)) x1 (.n (.n (.n .e x17 .e) x9 .e) x5 (.n (.n .e x21 .e) x13 .e))) x0 (.n (.n (.n (.n .e x16 .e) x8 .e) x4 (.n (.n .e x20 .e) x12 .e)) x2 (.n (.n (.n .e x18 .e) x10 .e) x6 (.n (.n .e x22 .e) x14 .e))))
def fr24 (x0 x1 x2 x3 x4 x5 x6 x7 x8 x9 x10 x11 x12 x13 x14 x15 x16 x17 x18 x19 x20 x21 x22 x23:AV):T AV:=(.n (.n (.n (.n (.n .e x15 .e) x7 (.n .e x23 .e)) x3 (.n (.n .e x19 .e) x11 .e)) x1 (.n (.n (.n .e x17 .e) x9 .e) x5 (.n (.n .e x21 .e) x13 .e))) x0 (.n (.n (.n (.n .e x16 .e) x8 .e) x4 (.n (.n .e x20 .e) x12 .e)) x2 (.n (.n (.n .e x18 .e) x10 .e) x6 (.n (.n .e x22 .e) x14 .e))))
def fr25 (x0 x1 x2 x3 x4 x5 x6 x7 x8 x9 x10 x11 x12 x13 x14 x15 x16 x17 x18 x19 x20 x21 x22 x23 x24:AV):T AV:=(.n (.n (.n (.n (.n .e x15 .e) x7 (.n .e x23 .e)) x3 (.n (.n .e x19 .e) x11 .e)) x1 (.n (.n (.n .e x17 .e) x9 .e) x5 (.n (.n .e x21 .e) x13 .e))) x0 (.n (.n (.n (.n .e x16 .e) x8 (.n .e x24 .e)) x4 (.n (.n .e x20 .e) x12 .e)) x2 (.n (.n (.n .e x18 .e) x10 .e) x6 (.n (.n .e x22 .e) x14 .e))))
def fr29 (x0 x1 x2 x3 x4 x5 x6 x7 x8 x9 x10 x11 x12 x13 x14 x15 x16 x17 x18 x19 x20 x21 x22 x23 x24 x25 x26 x27 x28:AV):T AV:=(.n (.n (.n (.n (.n .e x15 .e) x7 (.n .e x23 .e)) x3 (.n (.n .e x19 .e) x11 (.n .e x27 .e))) x1 (.n (.n (.n .e x17 .e) x9 (.n .e x25 .e)) x5 (.n (.n .e x21 .e) x13 .e))) x0 (.n (.n (.n (.n .e x16 .e) x8 (.n .e x24 .e)) x4 (.n (.n .e x20 .e) x12 (.n .e x28 .e))) x2 (.n (.n (.n .e x18 .e) x10 (.n .e x26 .e)) x6 (.n (.n .e x22 .e) x14 .e))))
def fr33 (x0 x1 x2 x3 x4 x5 x6 x7 x8 x9 x10 x11 x12 x13 x14 x15 x16 x17 x18 x19 x20 x21 x22 x23 x24 x25 x26 x27 x28 x29 x30 x31 x32:AV):T AV:=(.n (.n (.n (.n (.n (.n .e x31 .e) x15 .e) x7 (.n .e x23 .e)) x3 (.n (.n .e x19 .e) x11 (.n .e x27 .e))) x1 (.n (.n (.n .e x17 .e) x9 (.n .e x25 .e)) x5 (.n (.n .e x21 .e) x13 (.n .e x29 .e)))) x0 (.n (.n (.n (.n (.n .e x32 .e) x16 .e) x8 (.n .e x24 .e)) x4 (.n (.n .e x20 .e) x12 (.n .e x28 .e))) x2 (.n (.n (.n .e x18 .e) x10 (.n .e x26 .e)) x6 (.n (.n .e x22 .e) x14 (.n .e x30 .e)))))
def fr36 (x0 x1 x2 x3 x4 x5 x6 x7 x8 x9 x10 x11 x12 x13 x14 x15 x16 x17 x18 x19 x20 x21 x22 x23 x24 x25 x26 x27 x28 x29 x30 x31 x32 x33 x34 x35:AV):T AV:=(.n (.n (.n (.n (.n (.n .e x31 .e) x15 .e) x7 (.n .e x23 .e)) x3 (.n (.n (.n .e x35 .e) x19 .e) x11 (.n .e x27 .e))) x1 (.n (.n (.n (.n .e x33 .e) x17 .e) x9 (.n .e x25 .e)) x5 (.n (.n .e x21 .e) x13 (.n .e x29 .e)))) x0 (.n (.n (.n (.n (.n .e x32 .e) x16 .e) x8 (.n .e x24 .e)) x4 (.n (.n .e x20 .e) x12 (.n .e x28 .e))) x2 (.n (.n (.n (.n .e x34 .e) x18 .e) x10 (.n .e x26 .e)) x6 (.n (.n .e x22 .e) x14 (.n .e x30 .e)))))
abbrev in1:T AV:=fr1 .u
abbrev in2:T AV:=fr2 .u .u
abbrev in3:T AV:=fr3 .u .u .u
abbrev in4:T AV:=fr4 .u .u .u .u
abbrev in5:T AV:=fr5 .u .u .u .u .u
abbrev in6:T AV:=fr6 .u .u .u .u .u .u
abbrev in7:T AV:=fr7 .u .u .u .u .u .u .u
abbrev in8:T AV:=fr8 .u .u .u .u .u .u .u .u
abbrev in9:T AV:=fr9 .u .u .u .u .u .u .u .u .u
abbrev o9:T AV:=oI .u .u .u .u .u .u .u .u .u .u
abbrev in11:T AV:=fr11 .u .u .u .u .u .u .u .u .u .u .u
abbrev in12:T AV:=fr12 .u .u .u .u .u .u .u .u .u .u .u .u
abbrev in13:T AV:=fr13 .u .u .u .u .u .u .u .u .u .u .u .u .u
abbrev in14:T AV:=fr14 .u .u .u .u .u .u .u .u .u .u .u .u .u .u
abbrev in15:T AV:=fr15 .u .u .u .u .u .u .u .u .u .u .u .u .u .u .u
abbrev in17:T AV:=fr17 .u .u .u .u .u .u .u .u .u .u .u .u .u .u .u .u .u
abbrev in18:T AV:=fr18 .u .u .u .u .u .u .u .u .u .u .u .u .u .u .u .u .u .u
abbrev in19:T AV:=fr19 .u .u .u .u .u .u .u .u .u .u .u .u .u .u .u .u .u .u .u
abbrev in20:T AV:=fr20 .u .u .u .u .u .u .u .u .u .u .u .u .u .u .u .u .u .u .u .u
abbrev in23:T AV:=fr23 .u .u .u .u .u .u .u .u .u .u .u .u .u .u .u .u .u .u .u .u .u .u .u
abbrev in24:T AV:=fr24 .u .u .u .u .u .u .u .u .u .u .u .u .u .u .u .u .u .u .u .u .u .u .u .u
abbrev in25:T AV:=fr25 .u .u .u .u .u .u .u .u .u .u .u .u .u .u .u .u .u .u .u .u .u .u .u .u .u
abbrev in29:T AV:=fr29 .u .u .u .u .u .u .u .u .u .u .u .u .u .u .u .u .u .u .u .u .u .u .u .u .u .u .u .u .u
abbrev in33:T AV:=fr33 .u .u .u .u .u .u .u .u .u .u .u .u .u .u .u .u .u .u .u .u .u .u .u .u .u .u .u .u .u .u .u .u .u
abbrev in36:T AV:=fr36 .u .u .u .u .u .u .u .u .u .u .u .u .u .u .u .u .u .u .u .u .u .u .u .u .u .u .u .u .u .u .u .u .u .u .u .u
def dm (n:Nat):HT Pa:=.l (.of n)
def qy (n:Nat):HT Nat:=.l n
def yc {α:Type} (x:α):Rd α:=λn=>(x,n)
def oh (n:Nat):HT (Rd Arg):=.l (yc (.s n))
def sW (n:Nat):HT (Rd Arg):=.l (yc (.t (.of n)))
def aH (n:Nat):HT (Rd Arg):=.l (yc (.c (I n)))
def dzrk (b:Nat):Rd Nat:=λn=>(Nat.mod n b,Nat.div n b)
def dzrb {α β:Type} (a:Rd α) (f:α->Rd β):Rd β:=λn=>Prod.rec (λx m=>f x m) (a n)
def ze {α β:Type} (f:Rd (α->β)) (a:Rd α):Rd β:=λn=>Prod.rec (λg m=>Prod.rec (λx k=>(g x,k)) (a m)) (f n)
def ug {α β:Type} (g:α->β) (a:Rd α):Rd β:=λn=>Prod.rec (λx k=>(g x,k)) (a n)
def qg {α:Type} (t:HT α):Rd α:=HT.rec (λx n=>(x,n)) (λ_ _ f g n=>bif Nat.beq (Nat.mod n 2) 0 then f (Nat.div n 2) else g (Nat.div n 2)) t
def dzrj {α:Type} (t:HT (Rd α)):Rd α:=dzrb (qg t) (λf=>f)
def dzlg (l:List IR):Nat->IR:=List.rec (λ_=>.skip) (λx _ ih k=>Nat.rec x (λm _=>ih m) k) l
def qc8:HT (Rd Arg):=(.b (oh 0) (.b (.b (.b (.b (sW 4) (.b (.b (sW 10) (.b (oh 8) (.b (.b (aH 256) (aH 4)) (.b (oh 13) (.b (.l (yc (.c (.int .u32 10000)))) (.l (yc (.c (.int .u64 0))))))))) (.l (yc (.c (.bool false)))))) (.b (.b (.b (.b (.b (.b (.b (aH 7) (.l (yc (.c .sK)))) (.b (sW 31) (sW 34))) (.b (.b (.b (.l (yc (.c (.int .u64 100000000)))) (.l (yc (.c (.int .u64 16))))) (.b (.l (yc (.c (.int .u64 8)))) (.l (yc (.c (.int .u8 48)))))) (.b (.b (.l (yc (.c (.str [0,1,2,2,3,3,3,3,4,4,4,4,4,4,4,4,5,5,5,5,5,5,5,5,5,5,5,5,5,5,5,5,6,6,6,6,6,6,6,6,6,6,6,6,6,6,6,6,6,6,6,6,6,6,6,6,6,6,6,6,6,6,6,6,7,7,7,7,7,7,7,7,7,7,7,7,7,7,7,7,7,7,7,7,7,7,7,7,7,7,7,7,7,7,7,7,7,7,7,7,7,7,7,7,7,7,7,7,7,7,7,7,7,7,7,7,7,7,7,7,7,7,7,7,7,7,7,7,8,8,8,8,8,8,8,8,8,8,8,8,8,8,8,8,8,8,8,8,8,8,8,8,8,8,8,8,8,8,8,8,8,8,8,8,8,8,8,8,8,8,8,8,8,8,8,8,8,8,8,8,8,8,8,8,8,8,8,8,8,8,8,8,8,8,8,8,8,8,8,8,8,8,8,8,8,8,8,8,8,8,8,8,8,8,8,8,8,8,8,8,8,8,8,8,8,8,8,8,8,8,8,8,8,8,8,8,8,8,8,8,8,8,8,8,8,8,8,8,8,8,8,8,8,8,8,8])))) (.l (yc (.c (.str [110,111,114,109,97,108]))))) (.b (.l (yc (.c (I (-4000000000000000000))))) (.l (yc (.c (I (-9223372036854775808))))))))) (.b (.b (.b (.b (aH 4000000000000000000) (.b (.l (yc (.c (.fn 107 (.of 107) [])))) (.l (yc (.c (.fn 109 (.of 109) [])))))) (.b (.b (.l (yc (.c (.fn 111 (.of 111) [])))) (.l (yc (.c (.fn 112 (.of 112) []))))) (.b (.l (yc (.c (.fn 113 (.of 113) [])))) (.l (yc (.c (.fn 114 (.of 114) []))))))) (.b (.b (.b (.l (yc (.c (.fn 115 (.of 115) [])))) (.l (yc (.c (.fn 116 (.of 116) []))))) (.b (.l (yc (.c (.fn 120 (.of 120) [])))) (.l (yc (.c (.fn 150 (.of 150) [])))))) (.b (.b (.l (yc (.c (.fn 70 (.of 70) [])))) (.l (yc (.c (.fn 97 (.of 97) []))))) (.b (.l (yc (.c (.fp (layL 2))))) (.l (yc (.c (.int .u32 256)))))))) (.b (.b (.b (.b (.l (yc (.c (.int .u32 48)))) (.l (yc (.c (.int .u32 65536))))) (.b (.l (yc (.c (.int .u64 1)))) (.l (yc (.c (.int .u64 1000000000000000000)))))) (.b (.b (.l (yc (.c (.int .u64 18)))) (.l (yc (.c (.int .u64 256))))) (.b (.l (yc (.c (.int .u64 4294967296)))) (.l (yc (.c (.int .u64 65536))))))) (.b (.b (.b (.l (yc (.c (.int .u64 9223372036854775807)))) (.l (yc (.c (.int .u8 1))))) (.b (.l (yc (.c (.int .u8 47)))) (.l (yc (.c (.int .u8 57)))))) (.b (.b (.l (yc (.c (.str [109,111,115,116,45,112,101,114,102,101,99,116])))) (.l (yc (.c (.str [32]))))) (.b (.l (yc (.c (.str [48,49,50,51,52,53,54,55,56,57,97,98,99,100,101,102,103,104,105,106,107,108,109,110,111,112,113,114,115,116,117,118,119,120,121,122])))) (.l (yc (.c (.str [48,49,50,51,52,53,54,55,56,57])))))))))) (.l (yc (.c (.bool true))))) (.b (.l (yc (.c .zb))) (oh 5))) (sW 2))) (.b (.b (.b (.b (.b (sW 12) (.b (oh 9) (.b (aH 1000000000) (oh 11)))) (sW 9)) (sW 7)) (sW 3)) (oh 1))) (.b (.b (.b (.b (sW 6) (.b (.b (.b (.b (sW 19) (sW 20)) (.b (.b (.b (.b (.l (yc (.c (.str [49])))) (.l (yc (.c (.str [97,115,115,111,99,105,97,116,105,118,101]))))) (.b (.l (yc (.c (.str [98,105,109,97,103,105,99])))) (.l (yc (.c (.str [98,111,114,100,101,114,101,100])))))) (.l (yc (.c (.str [112,97,110,100,105,97,103,111,110,97,108]))))) (.l (yc (.c (.str [])))))) (.b (oh 10) (.b (aH 5) (aH 9)))) (.b (.b (.b (sW 17) (.b (.l (yc (.c (.str [115,101,109,105,109,97,103,105,99])))) (.l (yc (.c (.str [45])))))) (.b (.b (aH 12) (.l (yc (.c .sM)))) (.b (sW 21) (sW 29)))) (oh 6)))) (oh 2)) (.b (aH 0) (.b (oh 3) (.b (.b (.b (aH 3) (.b (aH 10) (oh 12))) (.b (.l (ug (λk=>.c (I (.ofNat k))) (dzrk 16384))) (.b (.b (.b (.b (aH 1048576) (aH 78913)) (.l (yc (.c (.fn 34 (.of 34) []))))) (.l (yc (.c (.int .u64 32))))) (.l (yc (.c (I (-1)))))))) (oh 4))))) (.b (.b (sW 1) (.b (.b (sW 8) (.b (.b (.b (aH 8) (.b (.l (yc (.c (.int .u8 45)))) (aH 16))) (oh 7)) (.b (.b (.b (sW 26) (.b (.l (yc (.c (.int .u64 4294967295)))) (.l (yc (.c (.str [47])))))) (.b (.b (.l (yc (.c (I (-999999999))))) (aH 999999999)) (.l (yc (.c (.int .u32 1)))))) (.b (sW 15) (sW 16))))) (sW 5))) (.b (sW 0) (.b (aH 1) (.b (.b (.b (.b (sW 18) (.l (ug Arg.s (dzrk 64)))) (sW 14)) (sW 11)) (.b (.b (.b (.b (.l (yc (.c (.int .u32 2)))) (.l (yc (.c (.str [48]))))) (.l (yc (.c (.str [48,48,48,49,48,50,48,51,48,52,48,53,48,54,48,55,48,56,48,57,49,48,49,49,49,50,49,51,49,52,49,53,49,54,49,55,49,56,49,57,50,48,50,49,50,50,50,51,50,52,50,53,50,54,50,55,50,56,50,57,51,48,51,49,51,50,51,51,51,52,51,53,51,54,51,55,51,56,51,57,52,48,52,49,52,50,52,51,52,52,52,53,52,54,52,55,52,56,52,57,53,48,53,49,53,50,53,51,53,52,53,53,53,54,53,55,53,56,53,57,54,48,54,49,54,50,54,51,54,52,54,53,54,54,54,55,54,56,54,57,55,48,55,49,55,50,55,51,55,52,55,53,55,54,55,55,55,56,55,57,56,48,56,49,56,50,56,51,56,52,56,53,56,54,56,55,56,56,56,57,57,48,57,49,57,50,57,51,57,52,57,53,57,54,57,55,57,56,57,57]))))) (aH 2)) (.b (sW 13) (.b (.l (ug (λk=>.t (.of k)) (dzrk 512))) (.b (.l (yc (.c (.int .u32 100)))) (.l (yc (.c (.str [109,97,103,105,99])))))))))))))))
def zrf:HT Nat:=(.b (qy 0) (.b (.b (.b (.b (.b (qy 24) (.b (qy 5) (.b (qy 16) (.b (qy 6) (.b (qy 68) (qy 9)))))) (qy 3)) (.b (.b (qy 8) (.b (.b (qy 7) (.b (qy 32) (.b (.b (qy 10) (qy 101)) (.b (qy 119) (qy 12))))) (.b (.b (.b (.b (qy 14) (qy 157)) (.b (qy 158) (qy 159))) (.b (.b (qy 160) (qy 165)) (.b (qy 166) (qy 167)))) (.b (.b (.b (qy 168) (qy 20)) (.b (qy 218) (qy 221))) (.b (.b (qy 44) (qy 47)) (.b (qy 63) (qy 64))))))) (qy 4))) (qy 2)) (qy 1)))
def dkpa:HT Pa:=(.b (.b (.b (dm 5) (.b (.b (.b (dm 16) (.b (.b (dm 29) (dm 23)) (.b (dm 24) (.b (dm 30) (dm 31))))) (dm 11)) (dm 8))) (.b (dm 4) (.b (.b (.b (.b (.b (.b (dm 32) (dm 34)) (.b (.b (dm 101) (dm 119)) (.b (dm 157) (dm 158)))) (.b (.b (.b (dm 159) (dm 160)) (.b (dm 165) (dm 166))) (.b (.b (dm 167) (dm 168)) (.b (dm 218) (dm 221))))) (.b (.b (.b (.b (dm 33) (dm 35)) (.b (dm 44) (dm 47))) (dm 20)) (.b (dm 26) (.b (.b (dm 63) (dm 68)) (dm 25))))) (dm 10)) (dm 7)))) (.b (.b (dm 3) (.b (.b (.b (dm 0) (dm 13)) (.b (.b (dm 18) (dm 17)) (dm 12))) (dm 6))) (.b (.b (.b (.b (.b (.b (dm 19) (dm 21)) (.b (dm 22) (.b (dm 27) (dm 28)))) (.b (dm 14) (dm 15))) (dm 9)) (dm 1)) (dm 2))))
def bT:HT (List AV):=(.b (.b (.l [(I 0)]) (.b (.l [.zb]) (.b (.b (.b (.l [(.bool false)]) (.l [(.int .u8 0)])) (.l [(.str [])])) (.l [(I 0),(I 0),.zb])))) (.b (.b (.l [.zb,(.bool false)]) (.b (.l [(I 0),.zb,(I 0),.zb]) (.b (.b (.b (.l [.tK,.zb]) (.l [(.int .u64 0)])) (.l [(I 0),(I 0),(I 0),(I 0),(I 0),(I 0),(I 0)])) (.b (.b (.l [.zb,.zb]) (.b (.l [(.int .u8 0),(.int .u8 0),(.int .u8 0),(.int .u8 0),(.int .u8 0),(.int .u8 0),(.int .u8 0),(.int .u8 0),(.int .u8 0),(.int .u8 0),(.int .u8 0),(.int .u8 0),(.int .u8 0),(.int .u8 0),(.int .u8 0),(.int .u8 0),(.int .u8 0),(.int .u8 0),(.int .u8 0),(.int .u8 0),(.int .u8 0),(.int .u8 0),(.int .u8 0),(.int .u8 0)]) (.l [.sK]))) (.l [.sM]))))) (.b (.l [(I 0),.zb]) (.b (.l [(.bool false),.zb]) (.b (.l [(.str []),.sK]) (.l [(I 0),(I 0)]))))))
def dkav:HT AV:=(.b (.l (.agg [.zb,(.bool false)])) (.l (.bool false)))
def dkoa:HT (Option Arg):=(.b (.l none) (.b (.b (.b (.b (.l (some (.s 16))) (.l (some (.s 2)))) (.b (.l (some (.s 8))) (.l (some (.s 3))))) (.l (some (.c (I 1))))) (.l (some (.s 0)))))
def dkon:HT (Option Nat):=(.l none)
def dkik:HT IntKind:=(.b (.b (.l .u32) (.l .u8)) (.b (.l .i64) (.l .u64)))
def dkkk:HT KK:=(.l .str)
def dkbo:HT Bool:=(.b (.l false) (.l true))
def su:HT Dst:=(.b (.b (.l .none) (.b (.b (.l (.loc (.of 1))) (.l (.loc (.of 2)))) (.b (.b (.l (.loc (.of 4))) (.b (.b (.b (.l (.loc (.of 13))) (.l (.loc (.of 14)))) (.l (.loc (.of 6)))) (.b (.b (.b (.l (.loc (.of 31))) (.b (.l (.loc (.of 0))) (.l (.loc (.of 15))))) (.l (.loc (.of 11)))) (.b (.l (.loc (.of 8))) (.b (.b (.l (.loc (.of 17))) (.l (.loc (.of 20)))) (.b (.l (.loc (.of 21))) (.l (.loc (.of 23))))))))) (.b (.b (.l (.loc (.of 5))) (.b (.b (.l (.loc (.of 12))) (.l (.loc (.of 9)))) (.b (.l (.loc (.of 10))) (.l (.loc (.of 7)))))) (.l (.loc (.of 3))))))) (.l .push))
def zrg:HT (Arg->Arg->PO):=(.b (.b (.b (.l (PO.bin .neq .int)) (.b (.l (PO.bin .mul .int)) (.b (.b (.l (PO.bin .eql .str)) (.b (.l (PO.bin .neq .bool)) (.b (.l (PO.bin .eql .bool)) (.b (.l (PO.bin .neq (.nil .sl))) (.l (PO.bin .neq .str)))))) (.b (.l (PO.bin .add .str)) (.l (PO.bin .shr .int)))))) (.l (PO.bin .add .int))) (.b (.b (.b (.l (PO.bin .eql .int)) (.b (.l (PO.bin .quo .int)) (.b (.l (PO.bin .eql (.nil .sl))) (.b (.l (PO.bin .and .int)) (.l (PO.bin .leq .int)))))) (.l (PO.bin .sub .int))) (.b (.b (.l (PO.bin .gtr .int)) (.b (.l (PO.bin .rem .int)) (.l (PO.bin .geq .int)))) (.l (PO.bin .lss .int)))))
def qc9:HT Nat:=(.b (.b (qy 2) (.b (.b (.b (.b (qy 10) (.b (qy 12) (.b (.b (.b (qy 33) (qy 37)) (qy 13)) (qy 11)))) (qy 7)) (.b (qy 8) (qy 6))) (qy 3))) (.b (.b (.b (qy 4) (.b (.b (.b (.b (.b (qy 14) (qy 17)) (.b (qy 18) (qy 24))) (.b (.b (.b (.b (qy 19) (qy 23)) (.b (qy 26) (qy 29))) (qy 16)) (qy 15))) (qy 9)) (qy 5))) (qy 1)) (qy 0)))
def qda:HT Nat:=(.b (.l 1) (.b (.l 2) (.l 0)))
def dka:Rd Arg:=dzrj qc8
def sw:Rd (Option (Arg×Bool)):=dzrj ((.b (.b (.l (ug (λa=>some (a,false)) dka)) (.l (ug (λa=>some (a,true)) dka))) (.l (yc none))))
def dkck:Rd Arg:=dzrj ((.b (.l dka) (.l (ug (λk=>.c (.fn k (.of k) [])) (dzrk 512)))))
def dklp:Rd (Nat×Nat×Arg):=ze (ug (λa b=>(a,b)) (qg zrf)) (ze (ug (λa b=>(a,b)) (qg zrf)) dka)
def dkn:Rd Nat:=qg zrf
def dkp:Rd Pa:=qg dkpa
def ol {α:Type} (a:Rd α) (r:List α):Rd (List α):=dzrb (qg qc9) λk=>Nat.rec (yc r) (λ_ ih=>ze (ug List.cons a) ih) k
def dkwo:Rd WO:=dzrj (.b (.b (.l (ze (ze (ze (ze (ze (yc WO.tV) dkn) dkn) (qg bT)) dka) dka)) (.l (ze (ze (ze (ze (yc WO.qw) dkn) dkn) (qg bT)) (ol dklp [])))) (.b (.l (yc WO.eX)) (.l (ze (yc WO.alloc) (qg bT)))))
def dkro:Rd RO:=dzrj (.b (.b (.l (ze (ug RO.q dkp) (ze (yc PO.mv) dka))) (.l (ug RO.s (ze (yc PO.mv) dka)))) (.b (.b (.b (.b (.l (ug RO.s (ze (ze (yc PO.zi) dkn) dka))) (.b (.b (.l (ug RO.s (ze (ze (ze (yc PO.pick) dka) dka) dka))) (.b (.b (.l (ze (ze (ug RO.p (qg su)) sw) (ze (ze (yc PO.zi) dkn) dka))) (.b (.l (ze (ze (ug RO.p (qg su)) sw) (ze (yc PO.not) dka))) (.l (ze (ze (ug RO.p (qg su)) sw) (ze (yc PO.slen) dka))))) (.b (.l (ze (ug RO.q dkp) (ze (yc PO.not) dka))) (.l (ug RO.s (ze (ze (ze (ze (ze (yc PO.slice) dkn) dka) (qg dkoa)) (qg dkoa)) (qg dkoa))))))) (.l (ze (ze (ug RO.p (qg su)) sw) (ze (ze (qg zrg) dka) dka))))) (.b (.l (ug RO.s (ze (ze (ze (yc PO.aB) dkn) dka) dka))) (.b (.b (.l (ug RO.s (ze (ze (yc PO.build) (qg bT)) (ol dklp [])))) (.l (ze (ug RO.q dkp) (ze (yc PO.len) dka)))) (.l (ze (ze (ug RO.w (qg su)) sw) (ze (yc WO.box) dka)))))) (.b (.b (.l (ug RO.s (ze (ze (yc PO.zal) dkn) dka))) (.b (.l (ug RO.s (ze (yc PO.len) dka))) (.b (.l (ze (ug RO.q dkp) (ze (ze (ze (yc PO.pick) dka) dka) dka))) (.b (.b (.b (.l (ze (ze (ug RO.w (qg su)) sw) (yc WO.eX))) (.l (ze (ze (ug RO.w (qg su)) sw) (ze (ze (ze (ze (yc WO.zpi) (qg dkkk)) dka) dka) dka)))) (.l (ug RO.s (ze (ze (ze (yc PO.fn) dkn) dkp) (ol dka []))))) (.l (ze (ze (ug RO.p (qg su)) sw) (ze (ze (yc PO.zal) dkn) dka))))))) (.l (ze (ze (ug RO.w (qg su)) sw) (ze (ze (yc WO.call) dkck) (ol dka [])))))) (.b (.b (.b (.l (ze (ze (ug RO.w (qg su)) sw) (ze (ze (ze (yc WO.store) dkn) dka) dka))) (.b (.b (.l (ze (ze (ug RO.p (qg su)) sw) (ze (yc PO.load) dka))) (.b (.l (ze (ze (ug RO.p (qg su)) sw) (ze (ze (ze (yc PO.aB) dkn) dka) dka))) (.b (.b (.b (.l (ug RO.s (ze (ze (ze (ze (ze (ze (yc PO.aslice) dkn) dkn) dka) (qg dkoa)) (qg dkoa)) (qg dkoa)))) (.l (ug RO.s (ze (yc PO.b2s) dka)))) (.l (ze (ze (ug RO.p (qg su)) sw) (ze (ze (yc PO.sidx) dka) dka)))) (.l (ze (ze (ug RO.p (qg su)) sw) (ze (yc PO.len) dka)))))) (.l (ze (ze (ug RO.p (qg su)) sw) (ze (yc PO.mv) dka))))) (.b (.l (ze (ug RO.q dkp) (ze (ze (qg zrg) dka) dka))) (.b (.b (.l (ze (ze (ug RO.w (qg su)) sw) (ze (ze (ze (ze (yc WO.qw) dkn) dkn) (qg bT)) (ol dklp [])))) (.b (.b (.l (ug RO.s (ze (ze (ze (ze (yc PO.zk9) dkn) dkn) dka) dka))) (.l (ug RO.s (ze (ze (ze (yc PO.zam) dka) (qg dkoa)) (qg dkoa))))) (.b (.l (ze (ze (ug RO.w (qg su)) sw) (ze (ze (ze (ze (ze (yc WO.tV) dkn) dkn) (qg bT)) dka) dka))) (.b (.b (.l (ug RO.s (ze (ze (ze (ze (ze (yc PO.look) (qg dkkk)) (qg dkav)) (qg dkbo)) dka) dka))) (.l (ze (ze (ug RO.p (qg su)) sw) (ze (ze (ze (yc PO.pick) dka) dka) dka)))) (.l (ug RO.s (ze (yc PO.not) dka))))))) (.l (ze (ze (ug RO.w (qg su)) sw) (ze (yc WO.alloc) (qg bT))))))) (.b (.l (ug RO.s (ze (ze (qg zrg) dka) dka))) (.b (.b (.l (ug RO.s (ze (ze (yc PO.ext) dkn) dka))) (.b (.b (.b (.b (.b (.l (ze (ze (ug RO.p (qg su)) sw) (ze (ze (ze (yc PO.zam) dka) (qg dkoa)) (qg dkoa)))) (.l (ug RO.s (ze (ze (ze (yc PO.zan) (qg dkbo)) dka) (ol dka []))))) (.b (.l (ug RO.s (ze (yc PO.neg) dka))) (.l (ze (ze (ug RO.w (qg su)) sw) (ze (ze (ze (ze (yc WO.appq) dkn) dkn) dka) dka))))) (.b (.b (.b (.l (ze (ze (ug RO.p (qg su)) sw) (ze (ze (ze (yc PO.fn) dkn) dkp) (ol dka [])))) (.l (ug RO.s (ze (yc PO.capz) dka)))) (.b (.b (.l (ze (ze (ug RO.p (qg su)) sw) (ze (yc PO.mlen) dka))) (.l (ze (ze (ug RO.p (qg su)) sw) (ze (ze (ze (yc PO.part) dkn) (qg dkon)) dka)))) (.b (.l (ze (ug RO.q dkp) (ze (ze (yc PO.ext) dkn) dka))) (.l (ze (ug RO.q dkp) (ze (ze (ze (yc PO.part) dkn) (qg dkon)) dka)))))) (.b (.b (.b (.l (ug RO.s (ze (ze (ze (yc PO.bm) dkn) dkp) (ol dka [])))) (.l (ug RO.s (ze (yc PO.entry) dka)))) (.b (.l (ug RO.s (ze (yc PO.mlen) dka))) (.l (ug RO.s (ze (ze (ze (yc PO.part) dkn) (qg dkon)) dka))))) (.b (.b (.l (ze (ze (ug RO.w (qg su)) sw) (ze (ze (ze (ze (ze (yc WO.appm) dkn) dkn) (qg bT)) dka) dka))) (.l (ze (ze (ug RO.w (qg su)) sw) (ze (ze (ze (yc WO.clr) dkn) (qg bT)) dka)))) (.b (.l (ze (ze (ug RO.w (qg su)) sw) (ze (yc WO.next) dka))) (.l (ze (ze (ug RO.w (qg su)) sw) (ze (yc WO.range) dka)))))))) (.l (ze (ze (ug RO.w (qg su)) sw) (ze (ze (ze (ze (yc WO.app) dkn) dkn) dka) dka)))) (.b (.b (.l (ze (ug RO.q dkp) (ze (yc PO.load) dka))) (.l (ug RO.s (ze (ze (yc PO.conv) (qg dkik)) dka)))) (.b (.l (ug RO.s (ze (yc PO.slen) dka))) (.l (ug RO.s (ze (ze (yc PO.sidx) dka) dka))))))) (.l (ug RO.s (ze (yc PO.load) dka))))))))
def dkl:Rd (List RO):=ol dkro []
def dI (R:List IR) (n:Nat):IR:=(Nat.rec (motive:=λ_=>Rd IR) (yc .skip) (λ_ q=>dzrj (.b (.b (.b (.l (yc IR.skip)) (.l (ze (ze (ze (yc IR.cond) dka) q) q))) (.b (.l (yc IR.ret)) (.b (.l (ug IR.reg dkl)) (.l (ze (ze (yc IR.block) dkn) q))))) (.b (.b (.b (.b (.b (.b (.l (ze (yc IR.bad) dkn)) (.l (ze (ze (ze (ze (yc IR.rf) dka) (ol dkp [])) q) q))) (.l (ug (λk=>dzlg R k) (qg qda)))) (.l (ze (yc IR.loop) q))) (.b (.l (ze (yc IR.exit) dkn)) (.l (ze (ug IR.wm (ol dkwo [])) (ol (ze (ug (λa b=>(a,b)) dkro) (ze (ug (λa b=>(a,b)) dkn) (ol dkwo []))) []))))) (.l (ze (ug IR.seq q) q))) (.l (ze (ug (λl=>IR.seq (.reg l)) dkl) q))))) 200 n).1
def dA (r:List RO) (n:Nat):List RO:=(ol dkro r n).1
end
end Go.Ev
namespace Go.Ev
open Go Go.Proofs
set_option maxRecDepth 100000
noncomputable section
abbrev aT1:Arg:=.t (.of 1)
abbrev aT2:Arg:=.t (.of 2)
abbrev aT3:Arg:=.t (.of 3)
abbrev aT4:Arg:=.t (.of 4)
abbrev aT5:Arg:=.t (.of 5)
abbrev aT6:Arg:=.t (.of 6)
abbrev aT7:Arg:=.t (.of 7)
abbrev aT8:Arg:=.t (.of 8)
abbrev aT9:Arg:=.t (.of 9)
abbrev aT10:Arg:=.t (.of 10)
abbrev aT11:Arg:=.t (.of 11)
abbrev aT12:Arg:=.t (.of 12)
abbrev aT13:Arg:=.t (.of 13)
abbrev aT14:Arg:=.t (.of 14)
abbrev aT15:Arg:=.t (.of 15)
abbrev aT16:Arg:=.t (.of 16)
abbrev aT17:Arg:=.t (.of 17)
abbrev aT18:Arg:=.t (.of 18)
abbrev aT21:Arg:=.t (.of 21)
abbrev aT22:Arg:=.t (.of 22)
abbrev aT23:Arg:=.t (.of 23)
abbrev aT24:Arg:=.t (.of 24)
abbrev aT25:Arg:=.t (.of 25)
abbrev aT26:Arg:=.t (.of 26)
abbrev aT27:Arg:=.t (.of 27)
abbrev aT28:Arg:=.t (.of 28)
abbrev aT30:Arg:=.t (.of 30)
abbrev aT31:Arg:=.t (.of 31)
abbrev aT32:Arg:=.t (.of 32)
abbrev aT35:Arg:=.t (.of 35)
abbrev aS0:Arg:=.s 0
abbrev aS1:Arg:=.s 1
abbrev aS2:Arg:=.s 2
abbrev aS3:Arg:=.s 3
abbrev aS4:Arg:=.s 4
abbrev aS5:Arg:=.s 5
abbrev aS8:Arg:=.s 8
abbrev aS11:Arg:=.s 11
abbrev aC0:Arg:=.c (I 0)
abbrev aC1:Arg:=.c (I 1)
abbrev aC3:Arg:=.c (I 3)
abbrev aC4:Arg:=.c (I 4)
abbrev aC5:Arg:=.c (I 5)
abbrev aC32:Arg:=.c (I 32)
abbrev F3.fr:=fr33
def F3.t0:IR:=.reg (dA [] 215536954244558)
def F3.zw8 (r:List RO):List RO:=dA r 5167169569593796
def F3.r1_4:List RO:=F3.zw8 []
def F3.zgq (r:List RO):List RO:=dA r 894438818647949454699640929477748145362991722
def F3.r1_3:List RO:=F3.zgq F3.r1_4
def F3.zgp (r:List RO):List RO:=dA r 133521398384537171974059782395133873706
def F3.r1_2:List RO:=F3.zgp F3.r1_3
def F3.rT (r:List RO):List RO:=dA r 96355589641290726863007453444986
def F3.tO:List RO:=F3.rT F3.r1_2
def F3.rR (r:List RO):List RO:=dA r 3093042193946244
def F3.sH:List RO:=F3.rR F3.tO
def F3.t1:IR:=.reg F3.sH
def F3.t2:IR:=.reg (dA [] 790516)
def F3.t4:IR:=.cond aT21 (.seq F3.t2 .ret) .skip
def F3.t6:IR:=.reg (dA [] 8799296998750757009748309034)
def F3.t7:IR:=.reg (dA [] 1478602328)
def F3.t12:IR:=.reg (dA [] 86197304)
def F3.t13:IR:=.reg (dA [] 790516)
def F3.t17:IR:=.reg (dA [] 185836603657100010295145514)
def F3.t18:IR:=.reg (dA [] 390995093138888881254085674)
def F3.t19:IR:=.reg (dA [] 5758915187686455804002219050)
def F3.t20:IR:=.reg (dA [] 7495901008017841032967218)
def F3.zai (r:List RO):List RO:=dA r 727195729121536992800342831961
def F3.zdo:List RO:=F3.zai []
def F3.zah (r:List RO):List RO:=dA r 3413312008285491610339222218
def F3.zaf:List RO:=F3.zah F3.zdo
def F3.t21:IR:=.reg F3.zaf
def F3.t26:IR:=.reg [iQo 16 (.mv (.c .zb))]
def F3.t27:IR:=.reg (dA [] 25066449823734)
def F3.t28:IR:=.reg (dA [] 56073171944285)
def F3.t30:IR:=.reg (dA [] 11144568)
def F3.zph (r:List RO):List RO:=dA r 166385854795958724
def F3.zxo:List RO:=F3.zph []
def F3.zpg (r:List RO):List RO:=dA r 104372523701547947893511389286527834
def F3.zxp:List RO:=F3.zpg F3.zxo
def F3.zpf (r:List RO):List RO:=dA r 2880046964220149187387338
def F3.zpe:List RO:=F3.zpf F3.zxp
def F3.t31:IR:=.wm [] (F3.zpe.map λo=>(o,0,[]))
def F3.t36:IR:=.reg (dA [] 47386236124386385)
def F3.t37:IR:=.reg (dA [] 28206136478517587051601)
def F3.t38:IR:=.reg (dA [] 67068609037917)
def F3.t40:IR:=.reg (dA [] 196153565592910039418073)
def F3.t41:IR:=.reg (dA [] 4682909879896951693303775082600122177093346)
def F3.t44:IR:=.reg (dA [] 64977766812)
def F3.t47:IR:=.seq F3.t38 (.seq (.cond aT32 .skip (.exit 2)) (.seq (.block 3 (.seq F3.t40 F3.t41)) F3.t44))
def F3.t48:IR:=.loop F3.t47
def F3.t51:IR:=.reg (dA [] 1231393590982749261261785)
def F3.t57:IR:=.reg (dA [] 13706516380)
def F3.t60:IR:=.seq F3.t28 (.seq (.cond aT27 .skip (.exit 0)) (.seq (.block 1 (.seq F3.t30 (.seq (.seq F3.t31 (.cond aT28 (.seq (.reg (dA [] 12549)) .ret) .skip)) (.seq F3.t36 (.seq (.seq F3.t37 (.block 2 F3.t48)) F3.t51))))) F3.t57))
def F3.t61:IR:=.loop F3.t60
def F3.t64:IR:=.reg (dA [] 4008662847190770024945031449406410)
def F3.t75:IR:=.seq F3.t6 (.seq (.seq F3.t7 (.cond aT22 (.seq (.reg (dA [] 12549)) .ret) .skip)) (.seq (.seq F3.t12 (.cond aT23 (.seq F3.t13 .ret) .skip)) (.seq F3.t17 (.seq F3.t18 (.seq F3.t19 (.seq F3.t20 (.seq (.seq F3.t21 (.cond aT24 (.seq (.reg (dA [] 12549)) .ret) .skip)) (.seq F3.t26 (.seq (.seq F3.t27 (.block 0 F3.t61)) (.seq F3.t64 .ret))))))))))
def F3.t77:IR:=.seq F3.t0 (.seq (.seq F3.t1 F3.t4) F3.t75)
def F3.b0:IR:=F3.t77
def F3.res:List RV:=[.t (.of 5)]
def F3:Fn:={ params:=[(.of 0),(.of 1),(.of 2)],res:=F3.res,body:=F3.b0,init:=in33 }
theorem F3.ok:fnA Tryz.prog Tryz.f3 [0,1,2,3,4,6,7,8,9,10,11,12,13,14,15,16,17,18,19,20,21,47,56,58,95,97,98,99,116,121,122,123,124]=some F3:=by kernel_rfl
abbrev F4.fr:=fr5
def F4.b0:IR:=dI [] 8706619002389935150812023361311723668222910286520965992159447779843312643519335832359009171
def F4.res:List RV:=[.t (.of 4)]
def F4:Fn:={ params:=[(.of 0),(.of 1),(.of 2)],res:=F4.res,body:=F4.b0,init:=in5 }
theorem F4.ok:fnA Tryz.prog Tryz.f4 [0,1,2,3,6]=some F4:=by kernel_rfl
abbrev F5.fr:=fr6
def F5.b0:IR:=dI [] 119695383527525449231708298256484175124975483154115648860804217807968483666835
def F5.res:List RV:=[.t (.of 3)]
def F5:Fn:={ params:=[(.of 0),(.of 1)],res:=F5.res,body:=F5.b0,init:=in6 }
theorem F5.ok:fnA Tryz.prog Tryz.f5 [0,1,2,4,7,12]=some F5:=by kernel_rfl
abbrev F6.fr:=fr3
def F6.t0:IR:=.reg [iQo 1 (.mv aC0)]
def F6.t1:IR:=.reg (dA [] 224543528438)
def F6.t2:IR:=.reg [iQo 1 (.mv aC5)]
def F6.t6:IR:=.reg (dA [] 47582803446)
def F6.t9:IR:=.seq F6.t0 (.seq (.seq F6.t1 (.cond aT2 (.seq F6.t2 .ret) .skip)) (.seq F6.t6 .ret))
def F6.b0:IR:=F6.t9
def F6.res:List RV:=[.t (.of 1)]
def F6:Fn:={ params:=[(.of 0)],res:=F6.res,body:=F6.b0,init:=in3 }
theorem F6.ok:fnA Tryz.prog Tryz.f6 [0,2,5]=some F6:=by kernel_rfl
abbrev F7.fr:=fr17
def F7.b0:IR:=dI [] 22560766777660775870843038331355997165110004322423922451877114546412231830509497239797495088469325202781527493085794475131639753491312078303474480563060718641821172079271822272213784764668581830354022571454060388618217259348496512279410965106112716874191131453285352062921703717628618784339089804098275393997273025794247651652294044113360956507154764981874219509050816066177019784944235524669952621142087257024547488583361405395816953311465930636524710280542503877066280813239560751019873922350523034938922376918241208971031318429776453695441852436068369949400795849367
def F7.res:List RV:=[.t (.of 0)]
def F7:Fn:={ params:=[],res:=F7.res,body:=F7.b0,init:=in17 }
theorem F7.ok:fnA Tryz.prog Tryz.f7 [0,1,2,3,4,5,6,7,8,9,10,11,12,13,14,15,38]=some F7:=by kernel_rfl
abbrev F8.fr:=fr15
def F8.t0:IR:=.reg (dA [] 99295829878631313)
def F8.t1:IR:=dI [] 80502798888047835546982039408957283363226931719468345472249
def F8.t2:IR:=.reg (dA [] 185183288)
def F8.t3:IR:=.reg (dA [] 3227766)
def F8.t8:IR:=.reg (dA [] 3870025436430)
def F8.t9:IR:=.reg (dA [] 3409380140930551377)
def F8.t10:IR:=.reg (dA [] 6409676125)
def F8.t12:IR:=.reg (dA [] 104120076110)
def F8.t13:IR:=.reg (dA [] 10450893099282048004826)
def F8.t14:IR:=.reg (dA [] 2889888)
def F8.t20:IR:=.reg (dA [] 891225500)
def F8.t23:IR:=.seq F8.t10 (.seq (.cond aT13 .skip (.exit 0)) (.seq (.block 1 (.seq F8.t12 (.seq F8.t13 (.cond aT14 (.seq F8.t14 .ret) .skip)))) F8.t20))
def F8.t24:IR:=.loop F8.t23
def F8.t27:IR:=.reg (dA [] 5776544)
def F8.t32:IR:=.seq F8.t0 (.seq (.seq F8.t1 (.seq F8.t2 (.cond aT9 (.seq F8.t3 .ret) .skip))) (.seq F8.t8 (.seq (.seq F8.t9 (.block 0 F8.t24)) (.seq F8.t27 .ret))))
def F8.b0:IR:=F8.t32
def F8.res:List RV:=[.t (.of 4),.t (.of 5)]
def F8:Fn:={ params:=[(.of 0),(.of 1)],res:=F8.res,body:=F8.b0,init:=in15 }
theorem F8.ok:fnA Tryz.prog Tryz.f8 [0,1,2,3,4,5,6,7,9,19,24,25,26,27,35]=some F8:=by kernel_rfl
abbrev F9.fr:=fr11
def F9.t0:IR:=.reg (dA [] 773784335822)
def F9.t1:IR:=.reg (dA [] 339735798)
def F9.t2:IR:=.reg (dA [] 92680056)
def F9.t3:IR:=.reg (dA [] 69805814)
def F9.t8:IR:=.reg (dA [] 3768403468704494649)
def F9.t9:IR:=.reg (dA [] 185183288)
def F9.t10:IR:=.reg (dA [] 69804150)
def F9.t15:IR:=.reg (dA [] 7938544773208593)
def F9.t16:IR:=.reg (dA [] 171180784596568)
def F9.t17:IR:=.reg (dA [] 31069328)
def F9.t21:IR:=.reg (dA [] 47195318)
def F9.t27:IR:=.seq F9.t0 (.seq (.seq F9.t1 (.seq F9.t2 (.cond aT8 (.seq F9.t3 .ret) .skip))) (.seq (.seq F9.t8 (.seq F9.t9 (.cond aT9 (.seq F9.t10 .ret) .skip))) (.seq F9.t15 (.seq (.seq F9.t16 (.cond aT10 (.seq F9.t17 .ret) .skip)) (.seq F9.t21 .ret)))))
def F9.b0:IR:=F9.t27
def F9.res:List RV:=[.t (.of 3),.t (.of 4)]
def F9:Fn:={ params:=[(.of 0),(.of 1)],res:=F9.res,body:=F9.b0,init:=in11 }
theorem F9.ok:fnA Tryz.prog Tryz.f9 [0,1,2,4,5,6,7,8,12,19,25]=some F9:=by kernel_rfl
abbrev F10.fr:=fr7
def F10.b0:IR:=dI [] 68075008835668686773612625486911803849327911561904532000227092412136665634619
def F10.res:List RV:=[.t (.of 3),.t (.of 4)]
def F10:Fn:={ params:=[(.of 0),(.of 1)],res:=F10.res,body:=F10.b0,init:=in7 }
theorem F10.ok:fnA Tryz.prog Tryz.f10 [0,1,2,4,5,6,11]=some F10:=by kernel_rfl
abbrev F11.fr:=fr6
def F11.t0:IR:=.reg (dA [] 765206980046)
def F11.t1:IR:=.reg (dA [] 571473739022)
def F11.t2:IR:=.reg (dA [] 23074328)
def F11.t8:IR:=.reg (dA [] 49376239746808556912590590374954)
def F11.t11:IR:=.seq F11.t0 (.seq (.seq F11.t1 (.seq F11.t2 (.cond aT5 (.seq (.reg (dA [] 18149430)) .ret) .skip))) (.seq F11.t8 .ret))
def F11.b0:IR:=F11.t11
def F11.res:List RV:=[.t (.of 2),.t (.of 3)]
def F11:Fn:={ params:=[(.of 0)],res:=F11.res,body:=F11.b0,init:=in6 }
theorem F11.ok:fnA Tryz.prog Tryz.f11 [0,1,2,3,4,8]=some F11:=by kernel_rfl
abbrev F12.fr:=fr6
def F12.t0:IR:=.reg [iQo 1 (.mv aC0)]
def F12.t1:IR:=.reg [iQo 2 (.mv aC0)]
def F12.t2:IR:=.reg (dA [] 1368321816161)
def F12.t5:IR:=.reg (dA [] 622200091201923034)
def F12.t6:IR:=.reg (dA [] 23074648)
def F12.t13:IR:=.reg (dA [] 238985014)
def F12.t15:IR:=.seq (.seq F12.t2 (.cond aT4 .skip (.exit 0))) (.seq (.block 1 (.seq F12.t5 (.seq F12.t6 (.cond aT5 (.seq (.reg (dA [] 22872)) .ret) .skip)))) F12.t13)
def F12.t16:IR:=.loop F12.t15
def F12.t19:IR:=.reg [iQo 1 (.mv aC0)]
def F12.t22:IR:=.seq F12.t0 (.seq (.seq F12.t1 (.block 0 F12.t16)) (.seq F12.t19 .ret))
def F12.b0:IR:=F12.t22
def F12.res:List RV:=[.t (.of 1)]
def F12:Fn:={ params:=[(.of 0)],res:=F12.res,body:=F12.b0,init:=in6 }
theorem F12.ok:fnA Tryz.prog Tryz.f12 [0,2,3,4,8,17]=some F12:=by kernel_rfl
abbrev F13.fr:=fr7
def F13.t0:IR:=.reg (dA [] 12773)
def F13.t1:IR:=.reg (dA [] 334897205041113)
def F13.t2:IR:=.reg (dA [] 12773)
def F13.t6:IR:=.reg [iQo 3 (.mv aC0)]
def F13.t7:IR:=.reg (dA [] 1366174332257)
def F13.t10:IR:=dI [] 143149727594754926401764473211775569315217785
def F13.t11:IR:=.reg (dA [] 12773)
def F13.t16:IR:=.reg (dA [] 37658294)
def F13.t18:IR:=.seq (.seq F13.t7 (.cond aT5 .skip (.exit 0))) (.seq (.block 1 (.seq F13.t10 (.cond aT6 (.seq F13.t11 .ret) .skip))) F13.t16)
def F13.t19:IR:=.loop F13.t18
def F13.t22:IR:=.reg (dA [] 18917)
def F13.t26:IR:=.seq F13.t0 (.seq (.seq F13.t1 (.cond aT4 (.seq F13.t2 .ret) .skip)) (.seq (.seq F13.t6 (.block 0 F13.t19)) (.seq F13.t22 .ret)))
def F13.b0:IR:=F13.t26
def F13.res:List RV:=[.t (.of 2)]
def F13:Fn:={ params:=[(.of 0),(.of 1)],res:=F13.res,body:=F13.b0,init:=in7 }
theorem F13.ok:fnA Tryz.prog Tryz.f13 [0,1,4,5,10,14,26]=some F13:=by kernel_rfl
abbrev F14.fr:=fr3
def F14.t0:IR:=.reg [iQo 1 (.mv (.c .zb))]
def F14.t1:IR:=.reg (dA [] 52921368738022807506)
def F14.t2:IR:=.reg (dA [] 22936)
def F14.t5:IR:=.seq F14.t0 (.seq F14.t1 (.seq F14.t2 .ret))
def F14.b0:IR:=F14.t5
def F14.res:List RV:=[.t (.of 1)]
def F14:Fn:={ params:=[(.of 0)],res:=F14.res,body:=F14.b0,init:=in3 }
theorem F14.ok:fnA Tryz.prog Tryz.f14 [0,2,3]=some F14:=by kernel_rfl
abbrev F15.fr:=fr9
def F15.b3:IR:=dI [] 108051969580363725537049881220623824320778780335664392567425775948490673
def F15.g2 (X3:IR):IR:=(.block 0 X3)
def F15.b2:IR:=F15.g2 F15.b3
def F15.b9:IR:=dI [] 337175
def F15.b0:IR:=dI [F15.b2,F15.b9] 24177755633755216564536614925666750009076349843
def F15.res:List RV:=[.t (.of 4)]
def F15:Fn:={ params:=[(.of 0),(.of 1),(.of 2)],res:=F15.res,body:=F15.b0,init:=in9 }
theorem F15.ok:fnA Tryz.prog Tryz.f15 [0,1,2,3,6,7,12,17,27]=some F15:=by kernel_rfl
abbrev F16.fr:=fr14
def F16.b16:IR:=dI [] 39415674473459090056548370310284374997919545819167734286198919652096506777803140171265604506286414639936832879470541
def F16.b17:IR:=dI [] 131329894
def F16.b11:IR:=dI [F16.b16,F16.b17] 45866898094036910497067061730205701894752707118555056379341976890659104964092666595568123355450243961732725591459902459649427377
def F16.g10 (X11:IR):IR:=(.block 2 X11)
def F16.b10:IR:=F16.g10 F16.b11
def F16.b18:IR:=dI [] 3868128689008712965623012661915153131
def F16.b19:IR:=dI [] 602532710
def F16.b4:IR:=dI [F16.b10,F16.b18,F16.b19] 720798822557494186048282199901347859815891961248782266639760897396572219415160753
def F16.g3 (X4:IR):IR:=(.block 0 X4)
def F16.b3:IR:=F16.g3 F16.b4
def F16.b20:IR:=dI [] 77719
def F16.b0:IR:=dI [F16.b3,F16.b20] 9263079846045521945812043919182582684380890574921003810698657709444164436678501454838175526279433107
def F16.res:List RV:=[.t (.of 2)]
def F16:Fn:={ params:=[(.of 0)],res:=F16.res,body:=F16.b0,init:=in14 }
theorem F16.ok:fnA Tryz.prog Tryz.f16 [0,1,2,3,4,5,13,17,22,32,36,52,66,72]=some F16:=by kernel_rfl
abbrev F17.fr:=fr3
def F17.b0:IR:=dI [] 110633842124825737054448077169231043810453318622615
def F17.res:List RV:=[.t (.of 1)]
def F17:Fn:={ params:=[(.of 0)],res:=F17.res,body:=F17.b0,init:=in3 }
theorem F17.ok:fnA Tryz.prog Tryz.f17 [0,2,8]=some F17:=by kernel_rfl
abbrev F18.fr:=fr7
def F18.b8:IR:=dI [] 1387227285694214349704486
def F18.b9:IR:=dI [] 602532710
def F18.b3:IR:=dI [F18.b8,F18.b9] 30483765619350854909745539459155808174546794326433897657520308331574480819700889436191750408817019994670464940028065531808927153707172797313315566914609451097229233
def F18.g2 (X3:IR):IR:=(.block 0 X3)
def F18.b2:IR:=F18.g2 F18.b3
def F18.b10:IR:=dI [] 155031
def F18.b0:IR:=dI [F18.b2,F18.b10] 101408902855210063228680179106567721876367406545067415
def F18.res:List RV:=[.t (.of 1)]
def F18:Fn:={ params:=[(.of 0)],res:=F18.res,body:=F18.b0,init:=in7 }
theorem F18.ok:fnA Tryz.prog Tryz.f18 [0,2,3,4,7,14,39]=some F18:=by kernel_rfl
abbrev F19.fr:=fr5
def F19.t0:IR:=.reg [iQo 1 (.mv aC0)]
def F19.t1:IR:=.reg [iQo 2 (.mv aC0)]
def F19.t2:IR:=.reg (dA [] 1367248074337)
def F19.zgt (r:List RO):List RO:=dA r 1462208726044725642999929345329
def F19.r3_1:List RO:=F19.zgt []
def F19.zgs (r:List RO):List RO:=dA r 7992944234951819288407599050
def F19.r3_0:List RO:=F19.zgs F19.r3_1
def F19.t5:IR:=.reg F19.r3_0
def F19.t6:IR:=.reg [iQo 1 (.mv aC3)]
def F19.t11:IR:=.reg (dA [] 238985014)
def F19.t13:IR:=.seq (.seq F19.t2 (.cond aT3 .skip (.exit 0))) (.seq (.block 1 (.seq F19.t5 (.cond aT4 (.seq F19.t6 .ret) .skip))) F19.t11)
def F19.t14:IR:=.loop F19.t13
def F19.t17:IR:=.reg [iQo 1 (.mv aC0)]
def F19.t20:IR:=.seq F19.t0 (.seq (.seq F19.t1 (.block 0 F19.t14)) (.seq F19.t17 .ret))
def F19.b0:IR:=F19.t20
def F19.res:List RV:=[.t (.of 1)]
def F19:Fn:={ params:=[(.of 0)],res:=F19.res,body:=F19.b0,init:=in5 }
theorem F19.ok:fnA Tryz.prog Tryz.f19 [0,2,3,7,21]=some F19:=by kernel_rfl
abbrev F20.fr:=fr3
def F20.b0:IR:=dI [] 4032186556743518650557279579221885421027064924018242198541126579
def F20.res:List RV:=[.cell (.of 1) (some 3),.t (.of 2)]
def F20:Fn:={ params:=[(.of 0)],res:=F20.res,body:=F20.b0,init:=in3 }
theorem F20.ok:fnA Tryz.prog Tryz.f20 [0,2,3]=some F20:=by kernel_rfl
abbrev F21.fr:=oI
def F21.b0:IR:=dI [] 245958731842287632935897757528684973041279519293605934160577111583841673041555392896666585390332761881929966870470415326615338443374202680663563767355195
def F21.res:List RV:=[.t (.of 2),.t (.of 3)]
def F21:Fn:={ params:=[(.of 0)],res:=F21.res,body:=F21.b0,init:=o9 }
theorem F21.ok:fnA Tryz.prog Tryz.f21 [0,1,2,3,4,5,6,10,13,14]=some F21:=by kernel_rfl
abbrev F22.fr:=fr7
def F22.b0:IR:=dI [] 259294852616151412964458420557371699632770401285765474629217683864048579
def F22.res:List RV:=[.t (.of 2),.t (.of 3)]
def F22:Fn:={ params:=[(.of 0),(.of 1)],res:=F22.res,body:=F22.b0,init:=in7 }
theorem F22.ok:fnA Tryz.prog Tryz.f22 [0,1,4,5,6,7,15]=some F22:=by kernel_rfl
abbrev F23.fr:=fr7
def F23.b0:IR:=dI [] 30744316164268765719999037956376916516480093802527051592873767879911462142454945544309408802126181527991412041461597574973251618915030117424769870719923
def F23.res:List RV:=[.cell (.of 2) (some 2),.t (.of 3)]
def F23:Fn:={ params:=[(.of 0),(.of 1)],res:=F23.res,body:=F23.b0,init:=in7 }
theorem F23.ok:fnA Tryz.prog Tryz.f23 [0,1,4,5,6,7,20]=some F23:=by kernel_rfl
abbrev F24.fr:=fr13
def F24.b0:IR:=dI [] 3395101737486553483327832781412793956739431353106133055362554379090664769893342707148461191725879783286606381881162517080104511013243415229573959464936121107705315090847340976743231472747461002447315787221298186595899250491
def F24.res:List RV:=[.t (.of 2),.t (.of 3)]
def F24:Fn:={ params:=[(.of 0)],res:=F24.res,body:=F24.b0,init:=in13 }
theorem F24.ok:fnA Tryz.prog Tryz.f24 [0,1,2,3,4,5,7,11,13,14,15,16,27]=some F24:=by kernel_rfl
abbrev F25.fr:=fr7
def F25.b3:IR:=dI [] 133072893771650397521810619752415241862474351776887855266436674356874139460274097
def F25.g2 (X3:IR):IR:=(.block 0 X3)
def F25.b2:IR:=F25.g2 F25.b3
def F25.b9:IR:=dI [] 337815
def F25.b0:IR:=dI [F25.b2,F25.b9] 5764428740213532592874941006744779605911
def F25.res:List RV:=[.t (.of 2)]
def F25:Fn:={ params:=[(.of 0),(.of 1)],res:=F25.res,body:=F25.b0,init:=in7 }
theorem F25.ok:fnA Tryz.prog Tryz.f25 [0,1,4,5,10,14,25]=some F25:=by kernel_rfl
abbrev F26.fr:=fr1
def F26.b0:IR:=dI [] 278864867954191190442778631123068994083499998165758228703111317053332598524802694231927
def F26.res:List RV:=[.cell (.of 0) (some 3)]
def F26:Fn:={ params:=[],res:=F26.res,body:=F26.b0,init:=in1 }
theorem F26.ok:fnA Tryz.prog Tryz.f26 [0]=some F26:=by kernel_rfl
abbrev F27.fr:=fr8
def F27.b2:IR:=dI [] 12209744261329414545902881022795836172099408261346668273
def F27.g1 (X2:IR):IR:=(.block 0 X2)
def F27.b1:IR:=F27.g1 F27.b2
def F27.b8:IR:=dI [] 155031
def F27.b0:IR:=dI [F27.b1,F27.b8] 4999842638482292694423
def F27.res:List RV:=[.t (.of 1)]
def F27:Fn:={ params:=[(.of 0)],res:=F27.res,body:=F27.b0,init:=in8 }
theorem F27.ok:fnA Tryz.prog Tryz.f27 [0,2,4,5,6,7,8,12]=some F27:=by kernel_rfl
abbrev F28.fr:=fr11
def F28.b3:IR:=dI [] 167323375066884233340096414791204576631957399317430772685326367946551025
def F28.g2 (X3:IR):IR:=(.block 0 X3)
def F28.b2:IR:=F28.g2 F28.b3
def F28.b9:IR:=dI [] 77719
def F28.b0:IR:=dI [F28.b2,F28.b9] 96193531874590530541680271803803377845653794036358704486675969226975020924289222647362296373280510724476646133197195081514087413697427
def F28.res:List RV:=[.t (.of 2)]
def F28:Fn:={ params:=[(.of 0)],res:=F28.res,body:=F28.b0,init:=in11 }
theorem F28.ok:fnA Tryz.prog Tryz.f28 [0,1,2,3,4,5,18,22,23,24,30]=some F28:=by kernel_rfl
abbrev F29.fr:=fr4
def F29.b0:IR:=dI [] 108724101989996480543218025197735948043512374634873150598907396769001663039396545618681050610139016763910793743297427
def F29.res:List RV:=[.t (.of 3)]
def F29:Fn:={ params:=[(.of 0),(.of 1)],res:=F29.res,body:=F29.b0,init:=in4 }
theorem F29.ok:fnA Tryz.prog Tryz.f29 [0,1,2,4]=some F29:=by kernel_rfl
abbrev F30.fr:=fr9
def F30.t0:IR:=.reg (dA [] 8672899812)
def F30.t1:IR:=.reg (dA [] 192448623928238)
def F30.t2:IR:=.reg (dA [] 53541659856551505)
def F30.t3:IR:=.reg (dA [] 7535709)
def F30.t5:IR:=.reg (dA [] 2279989070)
def F30.t6:IR:=dI [] 533183631485002052779157008153849
def F30.t9:IR:=.reg (dA [] 59237788)
def F30.t12:IR:=.seq F30.t3 (.seq (.cond aT8 .skip (.exit 0)) (.seq (.block 1 (.seq F30.t5 F30.t6)) F30.t9))
def F30.t13:IR:=.loop F30.t12
def F30.t16:IR:=.reg (dA [] 31530321661396)
def F30.t20:IR:=.seq F30.t0 (.seq F30.t1 (.seq (.seq F30.t2 (.block 0 F30.t13)) (.seq F30.t16 .ret)))
def F30.b0:IR:=F30.t20
def F30.res:List RV:=[.t (.of 2)]
def F30:Fn:={ params:=[(.of 0)],res:=F30.res,body:=F30.b0,init:=in9 }
theorem F30.ok:fnA Tryz.prog Tryz.f30 [0,1,2,3,5,8,9,10,11]=some F30:=by kernel_rfl
abbrev F31.fr:=fr2
def F31.t0:IR:=.reg [iQo 1 (.mv aC0)]
def F31.t1:IR:=.reg (dA [] 4346492351799621330876035995534001315021527127684877037442)
def F31.t3:IR:=.seq F31.t0 (.seq F31.t1 .ret)
def F31.b0:IR:=F31.t3
def F31.res:List RV:=[.t (.of 1)]
def F31:Fn:={ params:=[(.of 0)],res:=F31.res,body:=F31.b0,init:=in2 }
theorem F31.ok:fnA Tryz.prog Tryz.f31 [0,2]=some F31:=by kernel_rfl
abbrev F32.fr:=fr12
def F32.t0:IR:=.reg (dA [] 345111268)
def F32.t1:IR:=.reg (dA [] 17613584116193)
def F32.t2:IR:=.reg (dA [] 3188133875654)
def F32.t3:IR:=.reg (dA [] 197523037)
def F32.t5:IR:=.reg (dA [] 59215840141796057)
def F32.t6:IR:=.reg (dA [] 169603988)
def F32.t7:IR:=.reg (dA [] 236112487713952730)
def F32.t10:IR:=.reg (dA [] 266194518610403134448939344297)
def F32.t14:IR:=.reg (dA [] 160417180)
def F32.t17:IR:=.seq F32.t3 (.seq (.cond aT10 .skip (.exit 0)) (.seq (.block 1 (.seq F32.t5 (.seq (.seq F32.t6 (.cond aT11 F32.t7 .skip)) F32.t10))) F32.t14))
def F32.t18:IR:=.loop F32.t17
def F32.t21:IR:=.reg (dA [] 2072)
def F32.t25:IR:=.seq F32.t0 (.seq F32.t1 (.seq (.seq F32.t2 (.block 0 F32.t18)) (.seq F32.t21 .ret)))
def F32.b0:IR:=F32.t25
def F32.res:List RV:=[.t (.of 3)]
def F32:Fn:={ params:=[(.of 0),(.of 1)],res:=F32.res,body:=F32.b0,init:=in12 }
theorem F32.ok:fnA Tryz.prog Tryz.f32 [0,1,2,4,5,6,7,11,12,13,14,19]=some F32:=by kernel_rfl
abbrev F33.fr:=fr3
def F33.b0:IR:=dI [] 5907006480524797104605079
def F33.res:List RV:=[.t (.of 2)]
def F33:Fn:={ params:=[(.of 0),(.of 1)],res:=F33.res,body:=F33.b0,init:=in3 }
theorem F33.ok:fnA Tryz.prog Tryz.f33 [0,1,4]=some F33:=by kernel_rfl
abbrev F34.fr:=fr2
def F34.t0:IR:=.reg (dA [] 25445)
def F34.t1:IR:=.reg (dA [] 56141066379916389669984718518226)
def F34.t3:IR:=.seq F34.t0 (.seq F34.t1 .ret)
def F34.b0:IR:=F34.t3
def F34.res:List RV:=[.t (.of 1)]
def F34:Fn:={ params:=[(.of 0)],res:=F34.res,body:=F34.b0,init:=in2 }
theorem F34.ok:fnA Tryz.prog Tryz.f34 [0,2]=some F34:=by kernel_rfl
abbrev F35.fr:=fr4
def F35.b0:IR:=dI [] 11511615052210728131241836109154724658175862678687143548438840456459007400037462288198976138131
def F35.res:List RV:=[.t (.of 3)]
def F35:Fn:={ params:=[(.of 0),(.of 1)],res:=F35.res,body:=F35.b0,init:=in4 }
theorem F35.ok:fnA Tryz.prog Tryz.f35 [0,1,2,4]=some F35:=by kernel_rfl
abbrev F36.fr:=fr5
def F36.b0:IR:=dI [] 25972931905950021179622851135692873857334248012767375649683
def F36.res:List RV:=[.t (.of 3)]
def F36:Fn:={ params:=[(.of 0),(.of 1)],res:=F36.res,body:=F36.b0,init:=in5 }
theorem F36.ok:fnA Tryz.prog Tryz.f36 [0,1,2,4,5]=some F36:=by kernel_rfl
abbrev F37.fr:=oI
def F37.t0:IR:=.reg (dA [] 12462512)
def F37.t1:IR:=.reg [iQo 3 (.mv (.c .zb))]
def F37.t2:IR:=.reg (dA [] 816980897542)
def F37.t3:IR:=.reg (dA [] 7535709)
def F37.t5:IR:=.reg (dA [] 2279989070)
def F37.t6:IR:=.reg (dA [] 57484428827160)
def F37.t11:IR:=.reg (dA [] 651648424080562281888901850)
def F37.t15:IR:=.reg (dA [] 59237788)
def F37.t18:IR:=.seq F37.t3 (.seq (.cond aT8 .skip (.exit 0)) (.seq (.block 1 (.seq F37.t5 (.seq (.seq F37.t6 (.cond aT9 (.seq (.reg (dA [] 756951472)) .ret) .skip)) F37.t11))) F37.t15))
def F37.t19:IR:=.loop F37.t18
def F37.t22:IR:=.reg (dA [] 49853110)
def F37.t26:IR:=.seq F37.t0 (.seq F37.t1 (.seq (.seq F37.t2 (.block 0 F37.t19)) (.seq F37.t22 .ret)))
def F37.b0:IR:=F37.t26
def F37.res:List RV:=[.t (.of 1),.t (.of 2)]
def F37:Fn:={ params:=[(.of 0)],res:=F37.res,body:=F37.b0,init:=o9 }
theorem F37.ok:fnA Tryz.prog Tryz.f37 [0,2,3,4,6,7,8,9,10,14]=some F37:=by kernel_rfl
abbrev F38.fr:=fr36
def F38.t0:IR:=.reg (dA [] 16021058276)
def F38.t1:IR:=.reg (dA [] 4705838)
def F38.t2:IR:=.reg [iQo 4 (.mv (.c .zb))]
def F38.t3:IR:=.reg [iQo 5 (.mv (.c .zb))]
def F38.t4:IR:=.reg [iQo 6 (.mv aC1)]
def F38.t5:IR:=.reg (dA [] 251826416935281113)
def F38.t8:IR:=.reg (dA [] 272783450641857266094856906)
def F38.t9:IR:=dI [] 78797634273379985644895446286195970587143228099828831481
def F38.t10:IR:=.reg (dA [] 104920338858996390)
def F38.t11:IR:=.reg (dA [] 19077759837)
def F38.t13:IR:=.reg (dA [] 176667760938716434905)
def F38.t14:IR:=dI [] 9473039177517989841551319755342487590475203264889
def F38.t17:IR:=.reg (dA [] 11148338076)
def F38.t20:IR:=.seq F38.t11 (.seq (.cond aT21 .skip (.exit 2)) (.seq (.block 3 (.seq F38.t13 F38.t14)) F38.t17))
def F38.t21:IR:=.loop F38.t20
def F38.t24:IR:=.reg (dA [] 1484611254)
def F38.zai (r:List RO):List RO:=dA r 222675411279498692
def F38.zdo:List RO:=F38.zai []
def F38.zah (r:List RO):List RO:=dA r 28703316574636818319749775697755899784186058
def F38.zaf:List RO:=F38.zah F38.zdo
def F38.t25:IR:=.reg F38.zaf
def F38.t28:IR:=.reg (dA [] 5938442806)
def F38.t30:IR:=.seq (.seq F38.t25 (.cond aT22 .skip (.exit 4))) (.block 5 F38.t28)
def F38.t31:IR:=.loop F38.t30
def F38.t33:IR:=.reg (dA [] 3081001240)
def F38.t36:IR:=.reg (dA [] 2080483761961797753944461726418)
def F38.t37:IR:=.reg (dA [] 105132460709045873798)
def F38.t38:IR:=.reg (dA [] 56073171944285)
def F38.t40:IR:=.reg (dA [] 5663699847610190)
def F38.t41:IR:=.reg (dA [] 273858342994566252182772867026)
def F38.t44:IR:=.reg (dA [] 13706516380)
def F38.t47:IR:=.seq F38.t38 (.seq (.cond aT27 .skip (.exit 6)) (.seq (.block 7 (.seq F38.t40 F38.t41)) F38.t44))
def F38.t48:IR:=.loop F38.t47
def F38.t51:IR:=.reg (dA [] 10737404044775363622028768494341216107938178)
def F38.t61:IR:=.reg (dA [] 880621686)
def F38.t63:IR:=.seq (.seq F38.t5 (.cond aT17 .skip (.exit 0))) (.seq (.block 1 (.seq F38.t8 (.seq F38.t9 (.seq (.seq F38.t10 (.block 2 F38.t21)) (.seq F38.t24 (.seq (.block 4 F38.t31) (.seq (.seq F38.t33 (.cond aT23 (.exit 1) .skip)) (.seq F38.t36 (.seq (.seq F38.t37 (.block 6 F38.t48)) F38.t51))))))))) F38.t61)
def F38.t64:IR:=.loop F38.t63
def F38.t67:IR:=.reg (dA [] 7757277)
def F38.t68:IR:=.reg (dA [] 2990718000)
def F38.t69:IR:=.reg (dA [] 62671999132765)
def F38.t71:IR:=.reg (dA [] 4879928)
def F38.t72:IR:=.reg (dA [] 3670001695323894)
def F38.t75:IR:=.reg (dA [] 150669883062)
def F38.t76:IR:=.reg (dA [] 518336038438553377268735961)
def F38.t77:IR:=.reg (dA [] 1698834410874316112070)
def F38.t78:IR:=.reg (dA [] 147333505230429)
def F38.t80:IR:=.reg (dA [] 627808408506345737094361)
def F38.t81:IR:=.reg (dA [] 626628296585657293212913060160561552346798599339810)
def F38.t84:IR:=.reg (dA [] 35181693340)
def F38.t87:IR:=.seq F38.t78 (.seq (.cond aT35 .skip (.exit 10)) (.seq (.block 11 (.seq F38.t80 F38.t81)) F38.t84))
def F38.t88:IR:=.loop F38.t87
def F38.t91:IR:=dI [] 1960929355295095822606342880855948406212000432470805074754754507100825967333006700597289331617651287721209
def F38.t98:IR:=.reg (dA [] 4848575388)
def F38.t101:IR:=.seq F38.t69 (.seq (.cond aT30 .skip (.exit 8)) (.seq (.block 9 (.seq F38.t71 (.seq (.seq F38.t72 (.cond aT31 (.exit 9) .skip)) (.seq F38.t75 (.seq F38.t76 (.seq (.seq F38.t77 (.block 10 F38.t88)) F38.t91)))))) F38.t98))
def F38.t102:IR:=.loop F38.t101
def F38.t105:IR:=.reg (dA [] 13791663748)
def F38.t113:IR:=.seq F38.t0 (.seq F38.t1 (.seq F38.t2 (.seq F38.t3 (.seq (.seq F38.t4 (.block 0 F38.t64)) (.seq F38.t67 (.seq (.seq F38.t68 (.block 8 F38.t102)) (.seq F38.t105 .ret)))))))
def F38.b0:IR:=F38.t113
def F38.res:List RV:=[.cell (.of 2) (some 2)]
def F38:Fn:={ params:=[(.of 0)],res:=F38.res,body:=F38.b0,init:=in36 }
theorem F38.ok:fnA Tryz.prog Tryz.f38 [0,1,2,3,4,5,6,7,8,9,10,12,13,14,15,16,17,24,43,44,45,46,72,76,84,85,86,87,106,107,108,112,119,120,121,122]=some F38:=by kernel_rfl
abbrev F39.fr:=fr13
def F39.t0:IR:=.reg [iQo 1 (.mv aC0)]
def F39.t1:IR:=.reg (dA [] 14584)
def F39.t2:IR:=.reg (dA [] 2093501202189717265103482826127534128330)
def F39.t3:IR:=.reg (dA [] 475361078)
def F39.t6:IR:=.reg (dA [] 4641257270)
def F39.zw1 (r:List RO):List RO:=dA r 48690473355140694228177627494365430513
def F39.r5_2:List RO:=F39.zw1 []
def F39.zw0 (r:List RO):List RO:=dA r 59502822303699722079226695754367133973354
def F39.r5_1:List RO:=F39.zw0 F39.r5_2
def F39.zwz (r:List RO):List RO:=dA r 5811981645690465
def F39.r5_0:List RO:=F39.zwz F39.r5_1
def F39.t7:IR:=.reg F39.r5_0
def F39.t10:IR:=.cond aT8 (iSr [iQo 1 (.mv aC1)] .ret) .skip
def F39.zw5 (r:List RO):List RO:=dA r 41417758556263894292684968345192437577355894611150288522194550287978
def F39.r7_3:List RO:=F39.zw5 []
def F39.zw4 (r:List RO):List RO:=dA r 926834502893899366054216345377645257085206527291574901451306
def F39.r7_2:List RO:=F39.zw4 F39.r7_3
def F39.zw3 (r:List RO):List RO:=dA r 92991708578160828
def F39.r7_1:List RO:=F39.zw3 F39.r7_2
def F39.zw2 (r:List RO):List RO:=dA r 1240991876727427979484084464330
def F39.r7_0:List RO:=F39.zw2 F39.r7_1
def F39.t12:IR:=.reg F39.r7_0
def F39.t15:IR:=.cond aT9 (iSr [iQo 1 (.mv aC1)] .ret) .skip
def F39.zw7 (r:List RO):List RO:=dA r 5452079455415223404996
def F39.r9_1:List RO:=F39.zw7 []
def F39.zw6 (r:List RO):List RO:=dA r 174908461940027313886541880137004369781684938
def F39.r9_0:List RO:=F39.zw6 F39.r9_1
def F39.t17:IR:=.reg F39.r9_0
def F39.t22:IR:=.reg (dA [] 43880401548641)
def F39.t23:IR:=.reg (dA [] 74023860610556100422479306617522207145)
def F39.t24:IR:=.reg (dA [] 3858876115661229006010)
def F39.zpc (r:List RO):List RO:=dA r 620484013
def F39.zxq:List RO:=F39.zpc []
def F39.zpb (r:List RO):List RO:=dA r 80549615469787813561809138787459530
def F39.zpa:List RO:=F39.zpb F39.zxq
def F39.t25:IR:=.reg F39.zpa
def F39.t34:IR:=.reg [iQo 1 (.mv aC0)]
def F39.t37:IR:=.seq (.seq F39.t17 (.cond aT10 (iSr [iQo 1 (.mv aC4)] .ret) .skip)) (.seq (.seq F39.t22 (.cond aT11 (.seq F39.t23 (.seq F39.t24 (.seq F39.t25 (.cond aT12 (iSr [iQo 1 (.mv aC1)] .ret) .skip)))) .skip)) (.seq F39.t34 .ret))
def F39.t38:IR:=.seq (.seq F39.t12 F39.t15) F39.t37
def F39.t40:IR:=.seq F39.t6 (.seq (.seq F39.t7 F39.t10) F39.t38)
def F39.t43:IR:=.seq F39.t0 (.seq F39.t1 (.seq (.seq F39.t2 (.cond aT7 F39.t3 .skip)) F39.t40))
def F39.b0:IR:=F39.t43
def F39.res:List RV:=[.t (.of 1)]
def F39:Fn:={ params:=[(.of 0)],res:=F39.res,body:=F39.b0,init:=in13 }
theorem F39.ok:fnA Tryz.prog Tryz.f39 [0,2,3,4,5,6,7,16,36,62,72,76,95]=some F39:=by kernel_rfl
abbrev F40.fr:=fr7
def F40.t0:IR:=.reg (dA [] 12773)
def F40.t1:IR:=.reg (dA [] 334897205041113)
def F40.t2:IR:=.reg (dA [] 12773)
def F40.t6:IR:=.reg [iQo 3 (.mv aC0)]
def F40.t7:IR:=.reg (dA [] 1366174332257)
def F40.t10:IR:=dI [] 1103234359649761830476652237861599827193
def F40.t11:IR:=.reg (dA [] 12773)
def F40.t16:IR:=.reg (dA [] 37658294)
def F40.t18:IR:=.seq (.seq F40.t7 (.cond aT5 .skip (.exit 0))) (.seq (.block 1 (.seq F40.t10 (.cond aT6 (.seq F40.t11 .ret) .skip))) F40.t16)
def F40.t19:IR:=.loop F40.t18
def F40.t22:IR:=.reg (dA [] 18917)
def F40.t26:IR:=.seq F40.t0 (.seq (.seq F40.t1 (.cond aT4 (.seq F40.t2 .ret) .skip)) (.seq (.seq F40.t6 (.block 0 F40.t19)) (.seq F40.t22 .ret)))
def F40.b0:IR:=F40.t26
def F40.res:List RV:=[.t (.of 2)]
def F40:Fn:={ params:=[(.of 0),(.of 1)],res:=F40.res,body:=F40.b0,init:=in7 }
theorem F40.ok:fnA Tryz.prog Tryz.f40 [0,1,4,5,10,14,25]=some F40:=by kernel_rfl
abbrev F41.fr:=fr19
def F41.t0:IR:=.reg (dA [] 43919792)
def F41.t1:IR:=.reg (dA [] 21821650422)
def F41.t2:IR:=.reg [iQo 3 (.mv (.c .zb))]
def F41.t3:IR:=.reg [iQo 4 (.mv aC0)]
def F41.zgn (r:List RO):List RO:=dA r 8609031340059910266535242627178764681428714
def F41.r4_1:List RO:=F41.zgn []
def F41.zgm (r:List RO):List RO:=dA r 44408961078
def F41.r4_0:List RO:=F41.zgm F41.r4_1
def F41.t4:IR:=.reg F41.r4_0
def F41.t5:IR:=.cond aT12 .skip (.exit 0)
def F41.t7:IR:=.reg (dA [] 22198)
def F41.zwr (r:List RO):List RO:=dA r 1649513901
def F41.r6_2:List RO:=F41.zwr []
def F41.zgk (r:List RO):List RO:=dA r 53704487700457523764405054666035833
def F41.r6_1:List RO:=F41.zgk F41.r6_2
def F41.zgj (r:List RO):List RO:=dA r 550779935099301225721115433930
def F41.r6_0:List RO:=F41.zgj F41.r6_1
def F41.t8:IR:=.reg F41.r6_0
def F41.t11:IR:=.reg (dA [] 8208118)
def F41.t13:IR:=.seq (.seq F41.t8 (.cond aT13 .skip (.exit 2))) (.block 3 F41.t11)
def F41.t14:IR:=.loop F41.t13
def F41.t16:IR:=.reg (dA [] 83913673010657)
def F41.t19:IR:=.reg (dA [] 6837942)
def F41.t20:IR:=dI [] 186790494766571893816610347701429456880972978138920823632156232387645056249
def F41.t21:IR:=.reg (dA [] 1089452262500663902179807145)
def F41.t22:IR:=.reg [iQo 8 (.mv aC0)]
def F41.t23:IR:=.reg (dA [] 62554839719196335508434)
def F41.t26:IR:=dI [] 6042580903929638088912448511057918377101069619827837103470370172056806649
def F41.t28:IR:=.reg (dA [] 1627026166)
def F41.t30:IR:=.seq (.seq F41.t23 (.cond aT15 .skip (.exit 4))) (.seq (.block 5 F41.t26) F41.t28)
def F41.t31:IR:=.loop F41.t30
def F41.t34:IR:=.reg [iQo 9 (.mv aC0)]
def F41.t35:IR:=.reg (dA [] 43724266000737)
def F41.t38:IR:=.reg (dA [] 1632373106024127752138)
def F41.t39:IR:=.reg (dA [] 46658798257022016550255810814674)
def F41.t42:IR:=.reg [iQo 11 (.mv aC0)]
def F41.t43:IR:=.reg (dA [] 250039503122067720462290)
def F41.t46:IR:=dI [] 4312129860260476582295061073167606516909091858591844438044864795547912561952169058368502868171206117635734625801127161
def F41.t48:IR:=.reg (dA [] 5401540598)
def F41.t50:IR:=.seq (.seq F41.t43 (.cond aT18 .skip (.exit 8))) (.seq (.block 9 F41.t46) F41.t48)
def F41.t51:IR:=.loop F41.t50
def F41.t57:IR:=.reg (dA [] 2566551734)
def F41.t59:IR:=.seq (.seq F41.t35 (.cond aT16 .skip (.exit 6))) (.seq (.block 7 (.seq F41.t38 (.seq (.seq F41.t39 (.cond aT17 (.exit 7) .skip)) (.seq F41.t42 (.block 8 F41.t51))))) F41.t57)
def F41.t60:IR:=.loop F41.t59
def F41.t63:IR:=.reg (dA [] 158616601669880277721)
def F41.t69:IR:=.seq (.seq F41.t16 (.cond aT14 (.exit 1) .skip)) (.seq F41.t19 (.seq F41.t20 (.seq F41.t21 (.seq (.seq F41.t22 (.block 4 F41.t31)) (.seq (.seq F41.t34 (.block 6 F41.t60)) F41.t63)))))
def F41.t73:IR:=.reg (dA [] 71212086)
def F41.t74:IR:=.seq (.block 1 (.seq F41.t7 (.seq (.block 2 F41.t14) F41.t69))) F41.t73
def F41.t75:IR:=.seq (.seq F41.t4 F41.t5) F41.t74
def F41.t76:IR:=.loop F41.t75
def F41.t79:IR:=.reg (dA [] 266150804425001494482)
def F41.t80:IR:=.seq F41.t79 .ret
def F41.t84:IR:=.seq F41.t0 (.seq F41.t1 (.seq F41.t2 (.seq (.seq F41.t3 (.block 0 F41.t76)) F41.t80)))
def F41.b0:IR:=F41.t84
def F41.res:List RV:=[.t (.of 1),.t (.of 2)]
def F41:Fn:={ params:=[(.of 0)],res:=F41.res,body:=F41.b0,init:=in19 }
theorem F41.ok:fnA Tryz.prog Tryz.f41 [0,2,3,4,5,6,7,8,9,10,11,12,25,43,49,80,101,117,124]=some F41:=by kernel_rfl
abbrev F42.fr:=fr6
def F42.b2:IR:=dI [] 14774059061800873054510681638148509159153966344799238883953182641
def F42.g1 (X2:IR):IR:=(.block 0 X2)
def F42.b1:IR:=F42.g1 F42.b2
def F42.b8:IR:=dI [] 182167
def F42.b0:IR:=dI [F42.b1,F42.b8] 149006990559127
def F42.res:List RV:=[.t (.of 2)]
def F42:Fn:={ params:=[(.of 0),(.of 1)],res:=F42.res,body:=F42.b0,init:=in6 }
theorem F42.ok:fnA Tryz.prog Tryz.f42 [0,1,4,5,9,17]=some F42:=by kernel_rfl
abbrev F43.fr:=fr7
def F43.b0:IR:=dI [] 160755497519053074919675780376542762221764163107025056082618588840621920407472301522368968212282291
def F43.res:List RV:=[.cell (.of 3) (some 3),.t (.of 4)]
def F43:Fn:={ params:=[(.of 0),(.of 1),(.of 2)],res:=F43.res,body:=F43.b0,init:=in7 }
theorem F43.ok:fnA Tryz.prog Tryz.f43 [0,1,2,6,7,8,17]=some F43:=by kernel_rfl
abbrev F44.fr:=fr4
def F44.b0:IR:=dI [] 49260521792975420091411453108885890040278325520029351561096296882988627653890091524452593318732290974923068903354236662087392878588237687
def F44.res:List RV:=[.cell (.of 1) (some 3)]
def F44:Fn:={ params:=[(.of 0)],res:=F44.res,body:=F44.b0,init:=in4 }
theorem F44.ok:fnA Tryz.prog Tryz.f44 [0,2,3,4]=some F44:=by kernel_rfl
abbrev F45.fr:=fr2
def F45.b0:IR:=dI [] 209149813138502797204516402027501964986375575
def F45.res:List RV:=[.t (.of 1)]
def F45:Fn:={ params:=[(.of 0)],res:=F45.res,body:=F45.b0,init:=in2 }
theorem F45.ok:fnA Tryz.prog Tryz.f45 [0,2]=some F45:=by kernel_rfl
abbrev F46.fr:=oI
def F46.b0:IR:=dI [] 2191498108823544164751875352116371259583188107621424137432417357942678894901195090811599702549172687540966385166994824819332116863936858062866489746762907536198492548102493493737873950941975552536362611085131
def F46.res:List RV:=[]
def F46:Fn:={ params:=[(.of 0),(.of 1),(.of 2)],res:=F46.res,body:=F46.b0,init:=o9 }
theorem F46.ok:fnA Tryz.prog Tryz.f46 [0,1,2,6,7,8,9,17,18,19]=some F46:=by kernel_rfl
abbrev F47.fr:=fr9
def F47.b0:IR:=dI [] 43603409142384905501435979856789283197937893550611410873178888081757198053005433261421310123771685743633687495358828828377486979
def F47.res:List RV:=[.t (.of 4),.t (.of 5)]
def F47:Fn:={ params:=[(.of 0),(.of 1),(.of 2),(.of 3)],res:=F47.res,body:=F47.b0,init:=in9 }
theorem F47.ok:fnA Tryz.prog Tryz.f47 [0,1,2,3,6,7,10,17,24]=some F47:=by kernel_rfl
abbrev F48.fr:=fr12
def F48.b2:IR:=dI [] 6104175177702452088550925694924878933315004075864757209463690509573745
def F48.g1 (X2:IR):IR:=(.block 0 X2)
def F48.b1:IR:=F48.g1 F48.b2
def F48.b8:IR:=dI [] 655746532597842294555919853853659310110756297299041214160970502301985784974683889
def F48.g7 (X8:IR):IR:=(.block 2 X8)
def F48.b7:IR:=F48.g7 F48.b8
def F48.b14:IR:=dI [] 614499
def F48.b6:IR:=dI [F48.b7,F48.b14] 11258671823312204825024284718316908131
def F48.b0:IR:=dI [F48.b1,F48.b6] 20479533648075324655488407
def F48.res:List RV:=[.t (.of 1)]
def F48:Fn:={ params:=[(.of 0)],res:=F48.res,body:=F48.b0,init:=in12 }
theorem F48.ok:fnA Tryz.prog Tryz.f48 [0,2,3,5,6,8,10,12,21,22,23,24]=some F48:=by kernel_rfl
abbrev F49.fr:=fr6
def F49.b0:IR:=dI [] 3582137733795925189718404725972655351267373567185730054778371013104579
def F49.res:List RV:=[.t (.of 2),.t (.of 3)]
def F49:Fn:={ params:=[(.of 0),(.of 1)],res:=F49.res,body:=F49.b0,init:=in6 }
theorem F49.ok:fnA Tryz.prog Tryz.f49 [0,1,4,5,6,11]=some F49:=by kernel_rfl
abbrev F50.fr:=fr3
def F50.b0:IR:=dI [] 5907006481140523616159639
def F50.res:List RV:=[.t (.of 2)]
def F50:Fn:={ params:=[(.of 0),(.of 1)],res:=F50.res,body:=F50.b0,init:=in3 }
theorem F50.ok:fnA Tryz.prog Tryz.f50 [0,1,4]=some F50:=by kernel_rfl
abbrev F51.fr:=fr8
def F51.b2:IR:=dI [] 12209744261329414545902881022795836172099408261346668273
def F51.g1 (X2:IR):IR:=(.block 0 X2)
def F51.b1:IR:=F51.g1 F51.b2
def F51.b8:IR:=dI [] 155031
def F51.b0:IR:=dI [F51.b1,F51.b8] 4999842638482292694423
def F51.res:List RV:=[.t (.of 1)]
def F51:Fn:={ params:=[(.of 0)],res:=F51.res,body:=F51.b0,init:=in8 }
theorem F51.ok:fnA Tryz.prog Tryz.f51 [0,2,4,5,6,7,8,12]=some F51:=by kernel_rfl
abbrev F52.fr:=fr4
def F52.b0:IR:=dI [] 1433663206289784279314327
def F52.res:List RV:=[.t (.of 2)]
def F52:Fn:={ params:=[(.of 0),(.of 1)],res:=F52.res,body:=F52.b0,init:=in4 }
theorem F52.ok:fnA Tryz.prog Tryz.f52 [0,1,4,5]=some F52:=by kernel_rfl
abbrev F53.fr:=fr6
def F53.b0:IR:=dI [] 11702541357974076020697217200172901934808130647867
def F53.res:List RV:=[.t (.of 5)]
def F53:Fn:={ params:=[(.of 0),(.of 1),(.of 2)],res:=F53.res,body:=F53.b0,init:=in6 }
theorem F53.ok:fnA Tryz.prog Tryz.f53 [0,1,2,3,4,6]=some F53:=by kernel_rfl
abbrev F54.fr:=fr19
def F54.b0:IR:=dI [] 762742232332027928964113094706043702471073966858276045200754237571688311421671095718773272550338583013751777443779947832729329333113679612325516434200632242628919428550994235194267468588685666830946726876291430098870655900037840867161502011110214560720615443717154342423063923443139040030884405205127730033693539301592406142216417374821621701959193907492779391767563411670446102391
def F54.res:List RV:=[.cell (.of 2) (some 2)]
def F54:Fn:={ params:=[(.of 0),(.of 1)],res:=F54.res,body:=F54.b0,init:=in19 }
theorem F54.ok:fnA Tryz.prog Tryz.f54 [0,1,4,5,6,7,9,10,11,21,26,27,28,29,35,36,37,41,55]=some F54:=by kernel_rfl
abbrev F55.fr:=fr4
def F55.b0:IR:=dI [] 8309789917627232129954433359128736788858003824832852003902164859007211379374798361806790522231299347093818137109760251417586070464240067944134499455924416626390793610513456076221444742693928029034945680279725706441830496193427
def F55.res:List RV:=[.t (.of 2)]
def F55:Fn:={ params:=[(.of 0)],res:=F55.res,body:=F55.b0,init:=in4 }
theorem F55.ok:fnA Tryz.prog Tryz.f55 [0,1,2,28]=some F55:=by kernel_rfl
abbrev F56.fr:=fr1
def F56.b0:IR:=dI [] 30790690053045904077487276939809021366825934930996353492303427941789930623834840835293723676308060550161219630934840059168643647454337545467271844728710081414373940994711
def F56.res:List RV:=[.t (.of 0)]
def F56:Fn:={ params:=[],res:=F56.res,body:=F56.b0,init:=in1 }
theorem F56.ok:fnA Tryz.prog Tryz.f56 [0]=some F56:=by kernel_rfl
abbrev F57.fr:=fr3
def F57.b0:IR:=dI [] 104677998650350827602001144353837143582657943
def F57.res:List RV:=[.t (.of 1)]
def F57:Fn:={ params:=[(.of 0)],res:=F57.res,body:=F57.b0,init:=in3 }
theorem F57.ok:fnA Tryz.prog Tryz.f57 [0,2,4]=some F57:=by kernel_rfl
abbrev F58.fr:=fr14
def F58.b3:IR:=dI [] 26463766733137244043922699515201494362585386621679905317526440717672762613898204851066697250583900322006708237929626275536687954814576314669733099709893788750908008647631476879068772835861726205754657155053170417
def F58.g2 (X3:IR):IR:=(.block 0 X3)
def F58.b2:IR:=F58.g2 F58.b3
def F58.b9:IR:=dI [] 370496754055666226162048103704624886903108267
def F58.b0:IR:=dI [F58.b2,F58.b9] 15692294850716523867193473691991608153152145617523771666335341764291527218555795
def F58.res:List RV:=[.t (.of 3)]
def F58:Fn:={ params:=[(.of 0),(.of 1)],res:=F58.res,body:=F58.b0,init:=in14 }
theorem F58.ok:fnA Tryz.prog Tryz.f58 [0,1,2,4,5,6,7,8,16,17,18,19,20,48]=some F58:=by kernel_rfl
abbrev F59.fr:=fr2
def F59.b0:IR:=dI [] 52287453284625698936976336217018297729375639
def F59.res:List RV:=[.t (.of 1)]
def F59:Fn:={ params:=[(.of 0)],res:=F59.res,body:=F59.b0,init:=in2 }
theorem F59.ok:fnA Tryz.prog Tryz.f59 [0,2]=some F59:=by kernel_rfl
abbrev F60.fr:=fr4
def F60.b0:IR:=dI [] 1433663206289784279314327
def F60.res:List RV:=[.t (.of 2)]
def F60:Fn:={ params:=[(.of 0),(.of 1)],res:=F60.res,body:=F60.b0,init:=in4 }
theorem F60.ok:fnA Tryz.prog Tryz.f60 [0,1,4,5]=some F60:=by kernel_rfl
abbrev F61.fr:=fr2
def F61.b0:IR:=dI [] 5540390554694633622935
def F61.res:List RV:=[.t (.of 1)]
def F61:Fn:={ params:=[(.of 0)],res:=F61.res,body:=F61.b0,init:=in2 }
theorem F61.ok:fnA Tryz.prog Tryz.f61 [0,2]=some F61:=by kernel_rfl
abbrev F62.fr:=oI
def F62.b2:IR:=dI [] 743683248470084141189703596043729795814305899503960263240135356145
def F62.g1 (X2:IR):IR:=(.block 0 X2)
def F62.b1:IR:=F62.g1 F62.b2
def F62.b8:IR:=dI [] 111540605583272168031505468453241171975643722397
def F62.b0:IR:=dI [F62.b1,F62.b8] 103842993582153367392463706048088906992221598573128043411
def F62.res:List RV:=[.t (.of 2)]
def F62:Fn:={ params:=[(.of 0)],res:=F62.res,body:=F62.b0,init:=o9 }
theorem F62.ok:fnA Tryz.prog Tryz.f62 [0,1,2,3,5,12,13,14,15,25]=some F62:=by kernel_rfl
abbrev F63.fr:=oI
def F63.t0:IR:=.reg (dA [] 12581)
def F63.t1:IR:=.reg [iQo 4 (.mv (.c .zb))]
def F63.t2:IR:=.reg (dA [] 1615039188902)
def F63.t3:IR:=.reg (dA [] 311948125)
def F63.t5:IR:=.reg (dA [] 261558094)
def F63.t6:IR:=.reg (dA [] 83296186005166938781352452298)
def F63.t9:IR:=.reg (dA [] 101685148)
def F63.t12:IR:=.seq F63.t3 (.seq (.cond aT9 .skip (.exit 0)) (.seq (.block 1 (.seq F63.t5 F63.t6)) F63.t9))
def F63.t13:IR:=.loop F63.t12
def F63.t16:IR:=.reg (dA [] 172030488)
def F63.t17:IR:=dI [] 1971331906416600913070445443677561
def F63.t22:IR:=.seq F63.t0 (.seq F63.t1 (.seq (.seq F63.t2 (.block 0 F63.t13)) (.seq F63.t16 (.seq F63.t17 .ret))))
def F63.b0:IR:=F63.t22
def F63.res:List RV:=[.t (.of 3)]
def F63:Fn:={ params:=[(.of 0),(.of 1),(.of 2)],res:=F63.res,body:=F63.b0,init:=o9 }
theorem F63.ok:fnA Tryz.prog Tryz.f63 [0,1,2,5,6,8,9,10,11,12]=some F63:=by kernel_rfl
abbrev F64.fr:=fr2
def F64.b0:IR:=dI [] 36386018945958321041390038775893153755
def F64.res:List RV:=[]
def F64:Fn:={ params:=[(.of 0)],res:=F64.res,body:=F64.b0,init:=in2 }
theorem F64.ok:fnA Tryz.prog Tryz.f64 [0,2]=some F64:=by kernel_rfl
abbrev F65.fr:=fr8
def F65.b2:IR:=dI [] 204845516814644023058578160573334178680523941136232374928846577
def F65.g1 (X2:IR):IR:=(.block 0 X2)
def F65.b1:IR:=F65.g1 F65.b2
def F65.b8:IR:=dI [] 3075991
def F65.b0:IR:=dI [F65.b1,F65.b8] 19530634211246387095
def F65.res:List RV:=[.t (.of 2)]
def F65:Fn:={ params:=[(.of 0),(.of 1)],res:=F65.res,body:=F65.b0,init:=in8 }
theorem F65.ok:fnA Tryz.prog Tryz.f65 [0,1,4,5,7,8,9,16]=some F65:=by kernel_rfl
abbrev F66.fr:=fr2
def F66.b0:IR:=dI [] 1418309725872097467260311
def F66.res:List RV:=[.t (.of 1)]
def F66:Fn:={ params:=[(.of 0)],res:=F66.res,body:=F66.b0,init:=in2 }
theorem F66.ok:fnA Tryz.prog Tryz.f66 [0,2]=some F66:=by kernel_rfl
abbrev F67.fr:=oI
def F67.b2:IR:=dI [] 10708696004900742122594658313779657584798236941689989949724843568549965553
def F67.g1 (X2:IR):IR:=(.block 0 X2)
def F67.b1:IR:=F67.g1 F67.b2
def F67.b8:IR:=dI [] 270435
def F67.b0:IR:=dI [F67.b1,F67.b8] 45034697355809368532763619603052489619
def F67.res:List RV:=[.t (.of 3)]
def F67:Fn:={ params:=[(.of 0),(.of 1)],res:=F67.res,body:=F67.b0,init:=o9 }
theorem F67.ok:fnA Tryz.prog Tryz.f67 [0,1,2,4,5,7,9,10,11,12]=some F67:=by kernel_rfl
abbrev F68.fr:=fr3
def F68.b0:IR:=dI [] 1475374908675680755238807
def F68.res:List RV:=[.t (.of 2)]
def F68:Fn:={ params:=[(.of 0),(.of 1)],res:=F68.res,body:=F68.b0,init:=in3 }
theorem F68.ok:fnA Tryz.prog Tryz.f68 [0,1,3]=some F68:=by kernel_rfl
abbrev F69.fr:=fr3
def F69.t0:IR:=.reg (dA [] 12773)
def F69.t1:IR:=.reg (dA [] 4086697399604078553)
def F69.t3:IR:=.seq F69.t0 (.seq F69.t1 .ret)
def F69.b0:IR:=F69.t3
def F69.res:List RV:=[.t (.of 2)]
def F69:Fn:={ params:=[(.of 0),(.of 1)],res:=F69.res,body:=F69.b0,init:=in3 }
theorem F69.ok:fnA Tryz.prog Tryz.f69 [0,1,4]=some F69:=by kernel_rfl
abbrev F70.fr:=fr3
def F70.t0:IR:=.reg (dA [] 418509540)
def F70.t1:IR:=.reg (dA [] 2464128895274129806070409235124326796259689)
def F70.t3:IR:=.seq F70.t0 (.seq F70.t1 .ret)
def F70.b0:IR:=F70.t3
def F70.res:List RV:=[.t (.of 2)]
def F70:Fn:={ params:=[(.of 0)],res:=F70.res,body:=F70.b0,init:=in3 }
theorem F70.ok:fnA Tryz.prog Tryz.f70 [0,1,2]=some F70:=by kernel_rfl
end
end Go.Ev
