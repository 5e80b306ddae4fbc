import Derived.Test.YtfgpjkchdelphaaGreatDoorEvC
import Derived.Test.YtfgpjkchdelphaaGreatDoorProg
import Derived.KernelRfl
set_option linter.unusedSimpArgs false
set_option linter.unusedVariables false
namespace Go.Ev
open Go
inductive HT (α:Type) where
  | l (x:α) | b (x y:HT α)
abbrev Rd (α:Type):=Nat->α×Nat
noncomputable section
abbrev zU:List AV:=[(.int .u8 0),(.int .u8 0),(.int .u8 0),(.int .u8 0),(.int .u8 0),(.int .u8 0),(.int .u8 0),(.int .u8 0),(.int .u8 0),(.int .u8 0),(.int .u8 0),(.int .u8 0),(.int .u8 0),(.int .u8 0),(.int .u8 0),(.int .u8 0),(.int .u8 0),(.int .u8 0),(.int .u8 0),(.int .u8 0),(.int .u8 0),(.int .u8 0),(.int .u8 0),(.int .u8 0),(.int .u8 0),(.int .u8 0),(.int .u8 0),(.int .u8 0),(.int .u8 0),(.int .u8 0),(.int .u8 0),(.int .u8 0),(.int .u8 0),(.int .u8 0),(.int .u8 0),(.int .u8 0),(.int .u8 0),(.int .u8 0),(.int .u8 0),(.int .u8 0),(.int .u8 0),(.int .u8 0),(.int .u8 0),(.int .u8 0),(.int .u8 0),(.int .u8 0),(.int .u8 0),(.int .u8 0),(.int .u8 0),(.int .u8 0),(.int .u8 0),(.int .u8 0),(.int .u8 0),(.int .u8 0),(.int .u8 0),(.int .u8 0),(.int .u8 0),(.int .u8 0),(.int .u8 0),(.int .u8 0),(.int .u8 0),(.int .u8 0),(.int .u8 0),(.int .u8 0),(.int .u8 0),(.int .u8 0),(.int .u8 0),(.int .u8 0),(.int .u8 0),(.int .u8 0),(.int .u8 0),(.int .u8 0),(.int .u8 0),(.int .u8 0),(.int .u8 0),(.int .u8 0),(.int .u8 0),(.int .u8 0),(.int .u8 0),(.int .u8 0),(.int .u8 0),(.int .u8 0),(.int .u8 0),(.int .u8 0),(.int .u8 0),(.int .u8 0),(.int .u8 0),(.int .u8 0),(.int .u8 0),(.int .u8 0),(.int .u8 0),(.int .u8 0),(.int .u8 0),(.int .u8 0),(.int .u8 0),(.int .u8 0),(.int .u8 0),(.int .u8 0),(.int .u8 0),(.int .u8 0),(.int .u8 0),(.int .u8 0),(.int .u8 0),(.int .u8 0),(.int .u8 0),(.int .u8 0),(.int .u8 0),(.int .u8 0),(.int .u8 0),(.int .u8 0),(.int .u8 0),(.int .u8 0),(.int .u8 0),(.int .u8 0),(.int .u8 0),(.int .u8 0),(.int .u8 0),(.int .u8 0),(.int .u8 0),(.int .u8 0),(.int .u8 0),(.int .u8 0),(.int .u8 0),(.int .u8 0),(.int .u8 0),(.int .u8 0),(.int .u8 0),(.int .u8 0)]
abbrev iSm (n:Nat):RO:=.s (.mv (.t (.of n)))
abbrev iQm (n m:Nat):RO:=.q (.of n) (.mv (.s m))
abbrev iQo (n:Nat) (o:PO):RO:=.q (.of n) o
abbrev iPf (n:Nat) (o:PO):RO:=.p .push (some (.s n,false)) o
abbrev iPt (n:Nat) (o:PO):RO:=.p .push (some (.s n,true)) o
abbrev iCa (n:Nat) (l:List Arg):RO:=.w .push none (.call (.c (.fn n (.of n) [])) l)
abbrev iWl (n:Nat) (o:WO):RO:=.w (.loc (.of n)) none o
abbrev iSr (l:List RO) (c:IR):IR:=.seq (.reg l) c
def fr1 (x0:AV):T AV:=(.n .e x0 .e)
def fr2 (x0 x1:AV):T AV:=(.n (.n .e x1 .e) x0 .e)
def fr3 (x0 x1 x2:AV):T AV:=(.n (.n .e x1 .e) x0 (.n .e x2 .e))
def fr4 (x0 x1 x2 x3:AV):T AV:=(.n (.n (.n .e x3 .e) x1 .e) x0 (.n .e x2 .e))
def fr5 (x0 x1 x2 x3 x4:AV):T AV:=(.n (.n (.n .e x3 .e) x1 .e) x0 (.n (.n .e x4 .e) x2 .e))
def fr6 (x0 x1 x2 x3 x4 x5:AV):T AV:=(.n (.n (.n .e x3 .e) x1 (.n .e x5 .e)) x0 (.n (.n .e x4 .e) x2 .e))
def fr7 (x0 x1 x2 x3 x4 x5 x6:AV):T AV:=(.n (.n (.n .e x3 .e) x1 (.n .e x5 .e)) x0 (.n (.n .e x4 .e) x2 (.n .e x6 .e)))
def fr8 (x0 x1 x2 x3 x4 x5 x6 x7:AV):T AV:=(.n (.n (.n (.n .e x7 .e) x3 .e) x1 (.n .e x5 .e)) x0 (.n (.n .e x4 .e) x2 (.n .e x6 .e)))
def fr9 (x0 x1 x2 x3 x4 x5 x6 x7 x8:AV):T AV:=(.n (.n (.n (.n .e x7 .e) x3 .e) x1 (.n .e x5 .e)) x0 (.n (.n (.n .e x8 .e) x4 .e) x2 (.n .e x6 .e)))
def fr10 (x0 x1 x2 x3 x4 x5 x6 x7 x8 x9:AV):T AV:=(.n (.n (.n (.n .e x7 .e) x3 .e) x1 (.n (.n .e x9 .e) x5 .e)) x0 (.n (.n (.n .e x8 .e) x4 .e) x2 (.n .e x6 .e)))
def fr11 (x0 x1 x2 x3 x4 x5 x6 x7 x8 x9 x10:AV):T AV:=(.n (.n (.n (.n .e x7 .e) x3 .e) x1 (.n (.n .e x9 .e) x5 .e)) x0 (.n (.n (.n .e x8 .e) x4 .e) x2 (.n (.n .e x10 .e) x6 .e)))
def fr12 (x0 x1 x2 x3 x4 x5 x6 x7 x8 x9 x10 x11:AV):T AV:=(.n (.n (.n (.n .e x7 .e) x3 (.n .e x11 .e)) x1 (.n (.n .e x9 .e) x5 .e)) x0 (.n (.n (.n .e x8 .e) x4 .e) x2 (.n (.n .e x10 .e) x6 .e)))
def fr13 (x0 x1 x2 x3 x4 x5 x6 x7 x8 x9 x10 x11 x12:AV):T AV:=(.n (.n (.n (.n .e x7 .e) x3 (.n .e x11 .e)) x1 (.n (.n .e x9 .e) x5 .e)) x0 (.n (.n (.n .e x8 .e) x4 (.n .e x12 .e)) x2 (.n (.n .e x10 .e) x6 .e)))
def fr14 (x0 x1 x2 x3 x4 x5 x6 x7 x8 x9 x10 x11 x12 x13:AV):T AV:=(.n (.n (.n (.n .e x7 .e) x3 (.n .e x11 .e)) x1 (.n (.n .e x9 .e) x5 (.n .e x13 .e))) x0 (.n (.n (.n .e x8 .e) x4 (.n .e x12 .e)) x2 (.n (.n .e x10 .e) x6 .e)))
def fr15 (x0 x1 x2 x3 x4 x5 x6 x7 x8 x9 x10 x11 x12 x13 x14:AV):T AV:=(.n (.n (.n (.n .e x7 .e) x3 (.n .e x11 .e)) x1 (.n (.n .e x9 .e) x5 (.n .e x13 .e))) x0 (.n (.n (.n .e x8 .e) x4 (.n .e x12 .e)) x2 (.n (.n .e x10 .e) x6 (.n .e x14 .e))))
def fr18 (x0 x1 x2 x3 x4 x5 x6 x7 x8 x9 x10 x11 x12 x13 x14 x15 x16 x17:AV):T AV:=(.n (.n (.n (.n (.n .e x15 .e) x7 .e) x3 (.n .e x11 .e)) x1 (.n (.n (.n .e x17 .e) x9 .e) x5 (.n .e x13 .e))) x0 (.n (.n (.n (.n .e x16 .e) x8 .e) x4 (.n .e x12 .e)) x2 (.n (.n .e x10 .e) x6 (.n .e x14 .e))))
def fr19 (x0 x1 x2 x3 x4 x5 x6 x7 x8 x9 x10 x11 x12 x13 x14 x15 x16 x17 x18:AV):T AV:=(.n (.n (.n (.n (.n .e x15 .e) x7 .e) x3 (.n .e x11 .e)) x1 (.n (.n (.n .e x17 .e) x9 .e) x5 (.n .e x13 .e))) x0 (.n (.n (.n (.n .e x16 .e) x8 .e) x4 (.n .e x12 .e)) x2 (.n (.n (.n .e x18 .e) x10 .e) x6 (.n .e x14 .e))))
def fr23 (x0 x1 x2 x3 x4 x5 x6 x7 x8 x9 x10 x11 x12 x13 x14 x15 x16 x17 x18 x19 x20 x21 x22:AV):T AV:=(.n (.n (.n (.n (.n .e x15 .e) x7 .e) x3 (.n (.n .e x19 .e) x11 .e)) x1 (.n (.n (.n .e x17 .e) x9 .e) x5 (.n (.n .e x21 .e) x13 .e))) x0 (.n (.n (.n (.n .e x16 .e) x8 .e) x4 (.n (.n .e x20 .e) x12 .e)) x2 (.n (.n (.n .e x18 .e) x10 .e) x6 (.n (.n .e x22 .e) x14 .e))))
def fr28 (x0 x1 x2 x3 x4 x5 x6 x7 x8 x9 x10 x11 x12 x13 x14 x15 x16 x17 x18 x19 x20 x21 x22 x23 x24 x25 x26 x27:AV):T AV:=(.n (.n (.n (.n (.n .e x15 .e) x7 (.n .e x23 .e)) x3 (.n (.n .e x19 .e) x11 (.n .e x27 .e))) x1 (.n (.n (.n .e x17 .e) x9 (.n .e x25 .e)) x5 (.n (.n .e x21 .e) x13 .e))) x0 (.n (.n (.n (.n .e x16 .e) x8 (.n .e x24 .e)) x4 (.n (.n .e x20 .e) x12 .e)) x2 (.n (.n (.n .e x18 .e) x10 (.n .e x26 .e)) x6 (.n (.n .e x22 .e) x14 .e))))
def fr29 (x0 x1 x2 x3 x4 x5 x6 x7 x8 x9 x10 x11 x12 x13 x14 x15 x16 x17 x18 x19 x20 x21 x22 x23 x24 x25 x26 x27 x28:AV):T AV:=(.n (.n (.n (.n (.n .e x15 .e) x7 (.n .e x23 .e)) x3 (.n (.n .e x19 .e) x11 (.n .e x27 .e))) x1 (.n (.n (.n .e x17 .e) x9 (.n .e x25 .e)) x5 (.n (.n .e x21 .e) x13 .e))) x0 (.n (.n (.n (.n .e x16 .e) x8 (.n .e x24 .e)) x4 (.n (.n .e x20 .e) x12 (.n .e x28 .e))) x2 (.n (.n (.n .e x18 .e) x10 (.n .e x26 .e)) x6 (.n (.n .e x22 .e) x14 .e))))
def fr32 (x0 x1 x2 x3 x4 x5 x6 x7 x8 x9 x10 x11 x12 x13 x14 x15 x16 x17 x18 x19 x20 x21 x22 x23 x24 x25 x26 x27 x28 x29 x30 x31:AV):T AV:=(.n (.n (.n (.n (.n (.n .e x31 .e) x15 .e) x7 (.n .e x23 .e)) x3 (.n (.n .e x19 .e) x11 (.n .e x27 .e))) x1 (.n (.n (.n .e x17 .e) x9 (.n .e x25 .e)) x5 (.n (.n .e x21 .e) x13 (.n .e x29 .e)))) x0 (.n (.n (.n (.n .e x16 .e) x8 (.n .e x24 .e)) x4 (.n (.n .e x20 .e) x12 (.n .e x28 .e))) x2 (.n (.n (.n .e x18 .e) x10 (.n .e x26 .e)) x6 (.n (.n .e x22 .e) x14 (.n .e x30 .e)))))
def fr36 (x0 x1 x2 x3 x4 x5 x6 x7 x8 x9 x10 x11 x12 x13 x14 x15 x16 x17 x18 x19 x20 x21 x22 x23 x24 x25 x26 x27 x28 x29 x30 x31 x32 x33 x34 x35:AV):T AV:=(.n (.n (.n (.n (.n (.n .e x31 .e) x15 .e) x7 (.n .e x23 .e)) x3 (.n (.n (.n .e x35 .e) x19 .e) x11 (.n .e x27 .e))) x1 (.n (.n (.n (.n .e x33 .e) x17 .e) x9 (.n .e x25 .e)) x5 (.n (.n .e x21 .e) x13 (.n .e x29 .e)))) x0 (.n (.n (.n (.n (.n .e x32 .e) x16 .e) x8 (.n .e x24 .e)) x4 (.n (.n .e x20 .e) x12 (.n .e x28 .e))) x2 (.n (.n (.n (.n .e x34 .e) x18 .e) x10 (.n .e x26 .e)) x6 (.n (.n .e x22 .e) x14 (.n .e x30 .e)))))
def fr40 (x0 x1 x2 x3 x4 x5 x6 x7 x8 x9 x10 x11 x12 x13 x14 x15 x16 x17 x18 x19 x20 x21 x22 x23 x24 x25 x26 x27 x28 x29 x30 x31 x32 x33 x34 x35 x36 x37 x38 x39:AV):T AV:=(.n (.n (.n (.n (.n (.n .e x31 .e) x15 .e) x7 (.n (.n .e x39 .e) x23 .e)) x3 (.n (.n (.n .e x35 .e) x19 .e) x11 (.n .e x27 .e))) x1 (.n (.n (.n (.n .e x33 .e) x17 .e) x9 (.n .e x25 .e)) x5 (.n (.n (.n .e x37 .e) x21 .e) x13 (.n .e x29 .e)))) x0 (.n (.n (.n (.n (.n .e x32 .e) x16 .e) x8 (.n .e x24 .e)) x4 (.n (.n (.n .e x36 .e) x20 .e) x12 (.n .e x28 .e))) x2 (.n (.n (.n (.n .e x34 .e) x18 .e) x10 (.n .e x26 .e)) x6 (.n (.n (.n .e x38 .e) x22 .e) x14 (.n .e x30 .e)))))
abbrev in1:T AV:=fr1 .u
abbrev in2:T AV:=fr2 .u .u
abbrev in3:T AV:=fr3 .u .u .u
abbrev in4:T AV:=fr4 .u .u .u .u
abbrev in5:T AV:=fr5 .u .u .u .u .u
abbrev in6:T AV:=fr6 .u .u .u .u .u .u
abbrev in7:T AV:=fr7 .u .u .u .u .u .u .u
abbrev in8:T AV:=fr8 .u .u .u .u .u .u .u .u
abbrev in9:T AV:=fr9 .u .u .u .u .u .u .u .u .u
abbrev in10:T AV:=fr10 .u .u .u .u .u .u .u .u .u .u
abbrev in11:T AV:=fr11 .u .u .u .u .u .u .u .u .u .u .u
abbrev in12:T AV:=fr12 .u .u .u .u .u .u .u .u .u .u .u .u
abbrev in13:T AV:=fr13 .u .u .u .u .u .u .u .u .u .u .u .u .u
abbrev in14:T AV:=fr14 .u .u .u .u .u .u .u .u .u .u .u .u .u .u
abbrev in15:T AV:=fr15 .u .u .u .u .u .u .u .u .u .u .u .u .u .u .u
abbrev in18:T AV:=fr18 .u .u .u .u .u .u .u .u .u .u .u .u .u .u .u .u .u .u
abbrev in19:T AV:=fr19 .u .u .u .u .u .u .u .u .u .u .u .u .u .u .u .u .u .u .u
abbrev in23:T AV:=fr23 .u .u .u .u .u .u .u .u .u .u .u .u .u .u .u .u .u .u .u .u .u .u .u
abbrev in28:T AV:=fr28 .u .u .u .u .u .u .u .u .u .u .u .u .u .u .u .u .u .u .u .u .u .u .u .u .u .u .u .u
abbrev in29:T AV:=fr29 .u .u .u .u .u .u .u .u .u .u .u .u .u .u .u .u .u .u .u .u .u .u .u .u .u .u .u .u .u
abbrev in32:T AV:=fr32 .u .u .u .u .u .u .u .u .u .u .u .u .u .u .u .u .u .u .u .u .u .u .u .u .u .u .u .u .u .u .u .u
abbrev in36:T AV:=fr36 .u .u .u .u .u .u .u .u .u .u .u .u .u .u .u .u .u .u .u .u .u .u .u .u .u .u .u .u .u .u .u .u .u .u .u .u
abbrev in40:T AV:=fr40 .u .u .u .u .u .u .u .u .u .u .u .u .u .u .u .u .u .u .u .u .u .u .u .u .u .u .u .u .u .u .u .u .u .u .u .u .u .u .u .u
def bg (n:Nat):HT Pa:=.l (.of n)
def ve (n:Nat):HT Nat:=.l n
def yw {α:Type} (x:α):Rd α:=λn=>(x,n)
def aU (n:Nat):HT (Rd Arg):=.l (yw (.s n))
def su (n:Nat):HT (Rd Arg):=.l (yw (.t (.of n)))
def aB (n:Nat):HT (Rd Arg):=.l (yw (.c (I n)))
def dzrk (b:Nat):Rd Nat:=λn=>(Nat.mod n b,Nat.div n b)
def dzrb {α β:Type} (a:Rd α) (f:α->Rd β):Rd β:=λn=>Prod.rec (λx m=>f x m) (a n)
def zk {α β:Type} (f:Rd (α->β)) (a:Rd α):Rd β:=λn=>Prod.rec (λg m=>Prod.rec (λx k=>(g x,k)) (a m)) (f n)
def ql {α β:Type} (g:α->β) (a:Rd α):Rd β:=λn=>Prod.rec (λx k=>(g x,k)) (a n)
def vg {α:Type} (t:HT α):Rd α:=HT.rec (λx n=>(x,n)) (λ_ _ f g n=>bif Nat.beq (Nat.mod n 2) 0 then f (Nat.div n 2) else g (Nat.div n 2)) t
def dzrj {α:Type} (t:HT (Rd α)):Rd α:=dzrb (vg t) (λf=>f)
def dzlg (l:List IR):Nat->IR:=List.rec (λ_=>.skip) (λx _ ih k=>Nat.rec x (λm _=>ih m) k) l
def qcq:HT (Rd Arg):=(.b (aU 0) (.b (.b (.b (.b (su 2) (su 3)) (.b (.b (su 7) (.b (.b (.b (.b (su 26) (.b (.b (aB 999999999) (.l (yw (.c (.int .u64 100000000))))) (.l (yw (.c (.int .u32 10000)))))) (.l (yw (.c (.str [48,48,48,49,48,50,48,51,48,52,48,53,48,54,48,55,48,56,48,57,49,48,49,49,49,50,49,51,49,52,49,53,49,54,49,55,49,56,49,57,50,48,50,49,50,50,50,51,50,52,50,53,50,54,50,55,50,56,50,57,51,48,51,49,51,50,51,51,51,52,51,53,51,54,51,55,51,56,51,57,52,48,52,49,52,50,52,51,52,52,52,53,52,54,52,55,52,56,52,57,53,48,53,49,53,50,53,51,53,52,53,53,53,54,53,55,53,56,53,57,54,48,54,49,54,50,54,51,54,52,54,53,54,54,54,55,54,56,54,57,55,48,55,49,55,50,55,51,55,52,55,53,55,54,55,55,55,56,55,57,56,48,56,49,56,50,56,51,56,52,56,53,56,54,56,55,56,56,56,57,57,48,57,49,57,50,57,51,57,52,57,53,57,54,57,55,57,56,57,57]))))) (aU 8)) (su 10))) (.b (.b (aU 5) (.l (yw (.c (.bool true))))) (.b (su 11) (.b (.b (aU 9) (su 15)) (.b (.b (.l (yw (.c (.int .u32 100)))) (.l (yw (.c (.str []))))) (.b (aB 16) (aB 4)))))))) (.b (.b (.b (.b (.b (.b (.b (aU 11) (aU 12)) (.b (aU 13) (.l (ql Arg.s (dzrk 64))))) (.b (.b (.b (.l (yw (.c (.int .u64 0)))) (.l (yw (.c (.str [45]))))) (.b (aU 15) (aU 16))) (.b (.b (su 29) (su 33)) (.b (su 34) (.b (.l (yw (.c (.int .u64 16)))) (.l (yw (.c (.int .u64 8))))))))) (.b (.b (.b (.b (.b (.l (yw (.c (.int .u8 48)))) (.l (yw (.c (.str [0,1,2,2,3,3,3,3,4,4,4,4,4,4,4,4,5,5,5,5,5,5,5,5,5,5,5,5,5,5,5,5,6,6,6,6,6,6,6,6,6,6,6,6,6,6,6,6,6,6,6,6,6,6,6,6,6,6,6,6,6,6,6,6,7,7,7,7,7,7,7,7,7,7,7,7,7,7,7,7,7,7,7,7,7,7,7,7,7,7,7,7,7,7,7,7,7,7,7,7,7,7,7,7,7,7,7,7,7,7,7,7,7,7,7,7,7,7,7,7,7,7,7,7,7,7,7,7,8,8,8,8,8,8,8,8,8,8,8,8,8,8,8,8,8,8,8,8,8,8,8,8,8,8,8,8,8,8,8,8,8,8,8,8,8,8,8,8,8,8,8,8,8,8,8,8,8,8,8,8,8,8,8,8,8,8,8,8,8,8,8,8,8,8,8,8,8,8,8,8,8,8,8,8,8,8,8,8,8,8,8,8,8,8,8,8,8,8,8,8,8,8,8,8,8,8,8,8,8,8,8,8,8,8,8,8,8,8,8,8,8,8,8,8,8,8,8,8,8,8,8,8,8,8,8,8]))))) (.b (.l (yw (.c (.str [110,111,114,109,97,108])))) (.l (yw (.c (.str [45,49])))))) (.b (.b (.l (yw (.c (.str [50,47,51])))) (.l (yw (.c (.str [97,115,115,111,99,105,97,116,105,118,101]))))) (.b (.l (yw (.c (I (-4000000000000000000))))) (.l (yw (.c (I (-9223372036854775808)))))))) (.b (.b (.b (aB 4000000000000000000) (.l (yw (.c .sW)))) (.b (.b (.l (yw (.c (.fn 109 (.of 109) [])))) (.l (yw (.c (.fn 180 (.of 180) []))))) (.b (.l (yw (.c (.fn 220 (.of 220) [])))) (.l (yw (.c (.fn 221 (.of 221) []))))))) (.b (.b (.b (.l (yw (.c (.fn 222 (.of 222) [])))) (.l (yw (.c (.fn 223 (.of 223) []))))) (.b (.l (yw (.c (.fn 224 (.of 224) [])))) (.l (yw (.c (.fn 225 (.of 225) [])))))) (.b (.b (.l (yw (.c (.fn 226 (.of 226) [])))) (.l (yw (.c (.fn 227 (.of 227) []))))) (.b (.l (yw (.c (.fp (layL 2))))) (.l (yw (.c (.int .u32 256))))))))) (.b (.b (.b (.b (.b (.l (yw (.c (.int .u32 48)))) (.l (yw (.c (.int .u32 65536))))) (.b (.l (yw (.c (.int .u64 1)))) (.l (yw (.c (.int .u64 1000000000000000000)))))) (.b (.b (.l (yw (.c (.int .u64 18)))) (.l (yw (.c (.int .u64 256))))) (.b (.l (yw (.c (.int .u64 4294967296)))) (.l (yw (.c (.int .u64 65536))))))) (.b (.b (.b (.l (yw (.c (.int .u64 9223372036854775807)))) (.l (yw (.c (.int .u8 47))))) (.b (.l (yw (.c (.int .u8 57)))) (.l (yw (.c (.str [109,111,115,116,45,112,101,114,102,101,99,116])))))) (.b (.b (.l (yw (.c (.str [32])))) (.l (yw (.c (.str [45,49,47,51]))))) (.b (.l (yw (.c (.str [45,50,47,51])))) (.l (yw (.c (.str [48,49,50,51,52,53,54,55,56,57,97,98,99,100,101,102,103,104,105,106,107,108,109,110,111,112,113,114,115,116,117,118,119,120,121,122])))))))) (.b (.b (.b (.b (.l (yw (.c (.str [48,49,50,51,52,53,54,55,56,57])))) (.l (yw (.c (.str [49,47,51]))))) (.b (.l (yw (.c (.str [50])))) (.l (yw (.c (.str [52,47,51])))))) (.b (.b (.l (yw (.c (.str [54])))) (.l (yw (.c (.str [55]))))) (.b (.l (yw (.c (.str [98,105,109,97,103,105,99])))) (.l (yw (.c (.str [98,111,114,100,101,114,101,100]))))))) (.l (yw (.c (.str [109,97,103,105,99])))))))) (.l (yw (.c (.bool false))))) (.b (su 6) (.b (.l (yw (.c .ze))) (.b (su 13) (aU 6))))) (.b (aB 0) (aU 2)))) (.b (.b (aU 1) (.b (.b (.b (.b (.b (aB 1000000000) (.b (.l (yw (.c (I (-1))))) (aB 15))) (.b (.b (aB 8) (su 21)) (.b (su 27) (.b (.b (.b (.l (yw (.c (I (-9999))))) (.l (yw (.c (I (-999999999)))))) (.b (aB 1048576) (aB 78913))) (.l (yw (.c (.int .u8 45)))))))) (su 8)) (.b (su 9) (.b (.b (.b (aB 5) (aB 9)) (.b (su 17) (.b (.l (yw (.c (.str [112,97,110,100,105,97,103,111,110,97,108])))) (aB 12)))) (.b (aU 10) (.b (.b (aB 6) (su 22)) (.l (yw (.c (.str [48]))))))))) (su 0))) (.b (.b (.b (aU 3) (su 5)) (su 1)) (.b (.b (aB 1) (.b (.b (.b (su 14) (.b (su 19) (.b (su 23) (.l (yw (.c (.int .u64 32))))))) (su 12)) (.b (.b (.b (aB 10) (.l (ql (λk=>.t (.of k)) (dzrk 512)))) (.b (.b (.l (yw (.c (.str [115,101,109,105,109,97,103,105,99])))) (.l (yw (.c (.str [49]))))) (.b (aB 7) (.b (.l (yw (.c (.int .u64 4294967295)))) (.l (yw (.c (.str [47])))))))) (.b (.l (ql (λk=>.c (I (.ofNat k))) (dzrk 16384))) (aU 7))))) (.b (su 4) (.b (aU 4) (.b (.b (.b (su 16) (su 20)) (.b (aB 3) (su 18))) (.b (.b (.b (.l (yw (.c (.int .u32 1)))) (.l (yw (.c (.int .u32 2))))) (.b (su 24) (su 25))) (aB 2))))))))))
def zqs:HT Nat:=(.b (ve 0) (.b (.b (.b (ve 4) (.b (.b (.b (.b (ve 16) (ve 5)) (.b (.b (.b (.b (ve 10) (ve 117)) (.b (ve 12) (ve 128))) (.b (.b (ve 138) (ve 14)) (.b (ve 174) (ve 176)))) (.b (.b (.b (ve 185) (ve 20)) (.b (ve 238) (ve 239))) (.b (.b (ve 244) (ve 273)) (.b (ve 274) (ve 275)))))) (ve 8)) (.b (.b (ve 24) (.b (.b (.b (.b (ve 276) (ve 279)) (.b (ve 280) (ve 32))) (ve 6)) (.b (ve 7) (.b (.b (ve 56) (ve 64)) (ve 9))))) (ve 3)))) (ve 2)) (ve 1)))
def dkpa:HT Pa:=(.b (.b (bg 2) (.b (bg 4) (.b (.b (.b (.b (.b (.b (bg 32) (bg 35)) (.b (bg 38) (.b (bg 117) (bg 138)))) (.b (.b (.b (bg 174) (bg 176)) (.b (bg 185) (bg 238))) (.b (.b (bg 239) (bg 244)) (.b (bg 273) (bg 274))))) (.b (.b (.b (.b (bg 275) (bg 276)) (.b (bg 279) (bg 280))) (bg 28)) (bg 18))) (bg 9)) (bg 7)))) (.b (.b (.b (bg 1) (.b (.b (bg 13) (bg 0)) (.b (bg 12) (.b (.b (.b (.b (bg 36) (bg 37)) (bg 30)) (bg 25)) (bg 16))))) (bg 3)) (.b (.b (bg 6) (bg 5)) (.b (.b (.b (.b (bg 17) (bg 14)) (.b (bg 15) (.b (.b (bg 33) (bg 34)) (bg 19)))) (.b (.b (.b (bg 21) (bg 22)) (.b (bg 23) (bg 24))) (bg 11))) (.b (bg 8) (.b (.b (.b (bg 26) (.b (.b (bg 39) (bg 31)) (bg 29))) (.b (bg 20) (bg 27))) (bg 10)))))))
def zby:HT (List AV):=(.b (.b (.b (.b (.l [(I 0),(I 0)]) (.l [(.str []),.sW])) (.l [(I 0),.ze,(I 0),.ze])) (.l [(I 0)])) (.b (.l [(I 0),.ze]) (.b (.b (.l [(.str [])]) (.b (.b (.l [(I 0),.ze,(I 0),.ze,(I 0),.ze,(I 0),.ze]) (.l [.ze,.ze,(I 0)])) (.b (.b (.l [(.int .u64 0)]) (.l [.ze,.ze])) (.b (.b (.l [(.int .u8 0),(.int .u8 0),(.int .u8 0),(.int .u8 0),(.int .u8 0),(.int .u8 0),(.int .u8 0),(.int .u8 0),(.int .u8 0),(.int .u8 0),(.int .u8 0),(.int .u8 0),(.int .u8 0),(.int .u8 0),(.int .u8 0),(.int .u8 0),(.int .u8 0),(.int .u8 0),(.int .u8 0),(.int .u8 0),(.int .u8 0),(.int .u8 0),(.int .u8 0),(.int .u8 0)]) (.l [(I 0),(I 0),.ze])) (.b (.l [.sW]) (.l [.tJ,.ze])))))) (.b (.l [.ze]) (.l [(.bool false),.ze])))))
def dkav:HT AV:=(.l (.bool false))
def dkoa:HT (Option Arg):=(.b (.l none) (.b (.b (.l (some (.c (I 1)))) (.b (.b (.l (some (.s 2))) (.l (some (.s 8)))) (.b (.l (some (.s 3))) (.b (.l (some (.s 1))) (.l (some (.s 16))))))) (.l (some (.s 0)))))
def dkon:HT (Option Nat):=(.l none)
def dkik:HT IntKind:=(.b (.b (.l .u32) (.l .u8)) (.b (.l .i64) (.l .u64)))
def dkkk:HT KK:=(.l .str)
def dkbo:HT Bool:=(.b (.l false) (.l true))
def tC:HT Dst:=(.b (.b (.l .none) (.b (.b (.b (.b (.b (.l (.loc (.of 10))) (.l (.loc (.of 7)))) (.l (.loc (.of 5)))) (.l (.loc (.of 4)))) (.l (.loc (.of 1)))) (.b (.l (.loc (.of 2))) (.b (.b (.b (.l (.loc (.of 12))) (.b (.l (.loc (.of 11))) (.l (.loc (.of 13))))) (.b (.b (.l (.loc (.of 6))) (.l (.loc (.of 9)))) (.b (.b (.l (.loc (.of 14))) (.b (.l (.loc (.of 16))) (.l (.loc (.of 19))))) (.b (.b (.l (.loc (.of 20))) (.l (.loc (.of 21)))) (.b (.l (.loc (.of 31))) (.l (.loc (.of 8)))))))) (.l (.loc (.of 3))))))) (.l .push))
def zqt:HT (Arg->Arg->PO):=(.b (.b (.b (.b (.b (.b (.b (.b (.l (PO.bin .eql (.agg 2))) (.l (PO.bin .neq (.nil .sl)))) (.l (PO.bin .neq .bool))) (.l (PO.bin .eql .str))) (.l (PO.bin .eql (.nil .sl)))) (.l (PO.bin .geq .int))) (.b (.l (PO.bin .eql .int)) (.l (PO.bin .mul .int)))) (.b (.l (PO.bin .sub .int)) (.b (.b (.b (.b (.l (PO.bin .and .int)) (.l (PO.bin .eql .bool))) (.b (.l (PO.bin .leq .int)) (.l (PO.bin .neq .str)))) (.b (.l (PO.bin .add .str)) (.l (PO.bin .shr .int)))) (.l (PO.bin .gtr .int))))) (.b (.l (PO.bin .add .int)) (.b (.b (.b (.l (PO.bin .quo .int)) (.l (PO.bin .rem .int))) (.l (PO.bin .neq .int))) (.l (PO.bin .lss .int)))))
def qcr:HT Nat:=(.b (ve 0) (.b (.b (.b (.b (.b (.b (ve 12) (.b (.b (.b (ve 24) (ve 26)) (.b (.b (ve 23) (ve 29)) (.b (ve 38) (ve 49)))) (ve 15))) (.b (ve 10) (.b (.b (ve 14) (ve 11)) (.b (.b (ve 18) (ve 13)) (.b (ve 19) (.b (ve 16) (ve 17))))))) (ve 5)) (.b (ve 6) (ve 8))) (ve 1)) (.b (.b (.b (.b (ve 9) (ve 7)) (ve 4)) (ve 3)) (ve 2))))
def qcs:HT Nat:=(.b (.l 1) (.b (.l 2) (.l 0)))
def dka:Rd Arg:=dzrj qcq
def tF:Rd (Option (Arg×Bool)):=dzrj ((.b (.b (.l (ql (λa=>some (a,false)) dka)) (.l (ql (λa=>some (a,true)) dka))) (.l (yw none))))
def dkck:Rd Arg:=dzrj ((.b (.l dka) (.l (ql (λk=>.c (.fn k (.of k) [])) (dzrk 512)))))
def dklp:Rd (Nat×Nat×Arg):=zk (ql (λa b=>(a,b)) (vg zqs)) (zk (ql (λa b=>(a,b)) (vg zqs)) dka)
def dkn:Rd Nat:=vg zqs
def dkp:Rd Pa:=vg dkpa
def oQ {α:Type} (a:Rd α) (r:List α):Rd (List α):=dzrb (vg qcr) λk=>Nat.rec (yw r) (λ_ ih=>zk (ql List.cons a) ih) k
def dkwo:Rd WO:=dzrj (.b (.l (zk (yw WO.alloc) (vg zby))) (.l (zk (zk (zk (zk (yw WO.mq) dkn) dkn) (vg zby)) (oQ dklp []))))
def dkro:Rd RO:=dzrj (.b (.b (.b (.l (ql RO.s (zk (zk (vg zqt) dka) dka))) (.b (.b (.b (.b (.b (.b (.l (zk (zk (ql RO.p (vg tC)) tF) (zk (zk (yw PO.sidx) dka) dka))) (.l (zk (zk (ql RO.p (vg tC)) tF) (zk (yw PO.slen) dka)))) (.b (.l (zk (ql RO.q dkp) (zk (yw PO.not) dka))) (.b (.l (zk (zk (ql RO.p (vg tC)) tF) (zk (zk (zk (yw PO.fn) dkn) dkp) (oQ dka [])))) (.l (zk (ql RO.q dkp) (zk (zk (zk (yw PO.part) dkn) (vg dkon)) dka)))))) (.b (.l (zk (zk (ql RO.p (vg tC)) tF) (zk (yw PO.not) dka))) (.l (ql RO.s (zk (zk (zk (yw PO.zaq) dka) (vg dkoa)) (vg dkoa)))))) (.b (.l (zk (zk (ql RO.p (vg tC)) tF) (zk (zk (yw PO.zao) dkn) dka))) (.b (.b (.l (ql RO.s (zk (zk (zk (zk (yw PO.zf5) dkn) dkn) dka) dka))) (.l (zk (zk (ql RO.w (vg tC)) tF) (zk (zk (zk (zk (zk (yw WO.au) dkn) dkn) (vg zby)) dka) dka)))) (.b (.b (.l (ql RO.s (zk (zk (zk (zk (zk (zk (yw PO.aslice) dkn) dkn) dka) (vg dkoa)) (vg dkoa)) (vg dkoa)))) (.l (zk (zk (ql RO.p (vg tC)) tF) (zk (zk (zk (yw PO.pick) dka) dka) dka)))) (.b (.l (ql RO.s (zk (zk (zk (yw PO.zar) (vg dkbo)) dka) (oQ dka [])))) (.l (ql RO.s (zk (yw PO.neg) dka)))))))) (.b (.l (zk (zk (ql RO.w (vg tC)) tF) (zk (zk (zk (zk (yw WO.mq) dkn) dkn) (vg zby)) (oQ dklp [])))) (.b (.b (.l (ql RO.s (zk (zk (yw PO.conv) (vg dkik)) dka))) (.b (.b (.b (.l (ql RO.s (zk (yw PO.b2s) dka))) (.l (ql RO.s (zk (yw PO.capz) dka)))) (.b (.b (.l (ql RO.s (zk (zk (zk (zk (zk (yw PO.look) (vg dkkk)) (vg dkav)) (vg dkbo)) dka) dka))) (.l (ql RO.s (zk (zk (zk (yw PO.part) dkn) (vg dkon)) dka)))) (.b (.l (zk (zk (ql RO.w (vg tC)) tF) (zk (zk (zk (zk (zk (yw WO.appm) dkn) dkn) (vg zby)) dka) dka))) (.l (zk (zk (ql RO.w (vg tC)) tF) (zk (zk (zk (zk (yw WO.appq) dkn) dkn) dka) dka)))))) (.l (zk (zk (ql RO.p (vg tC)) tF) (zk (zk (yw PO.zw) dkn) dka))))) (.l (ql RO.s (zk (zk (yw PO.build) (vg zby)) (oQ dklp []))))))) (.l (ql RO.s (zk (yw PO.load) dka))))) (.l (ql RO.s (zk (yw PO.mv) dka)))) (.b (.b (.b (.b (.b (.b (.l (zk (zk (ql RO.w (vg tC)) tF) (zk (zk (zk (zk (yw WO.app) dkn) dkn) dka) dka))) (.b (.l (ql RO.s (zk (zk (yw PO.sidx) dka) dka))) (.b (.l (ql RO.s (zk (zk (zk (zk (zk (yw PO.slice) dkn) dka) (vg dkoa)) (vg dkoa)) (vg dkoa)))) (.b (.l (zk (zk (ql RO.p (vg tC)) tF) (zk (zk (zk (yw PO.zaq) dka) (vg dkoa)) (vg dkoa)))) (.b (.b (.l (zk (zk (ql RO.w (vg tC)) tF) (zk (zk (zk (zk (yw WO.zou) (vg dkkk)) dka) dka) dka))) (.l (zk (zk (ql RO.w (vg tC)) tF) (yw WO.zas)))) (.l (zk (zk (ql RO.p (vg tC)) tF) (zk (zk (zk (zk (yw PO.zf5) dkn) dkn) dka) dka)))))))) (.l (zk (zk (ql RO.p (vg tC)) tF) (zk (zk (vg zqt) dka) dka)))) (.l (zk (zk (ql RO.w (vg tC)) tF) (zk (zk (zk (yw WO.store) dkn) dka) dka)))) (.b (.l (ql RO.s (zk (zk (zk (yw PO.zf4) dkn) dka) dka))) (.b (.l (ql RO.s (zk (yw PO.len) dka))) (.l (zk (zk (ql RO.w (vg tC)) tF) (zk (yw WO.alloc) (vg zby))))))) (.b (.b (.b (.b (.b (.l (ql RO.s (zk (yw PO.slen) dka))) (.l (zk (zk (ql RO.p (vg tC)) tF) (zk (zk (zk (yw PO.zf4) dkn) dka) dka)))) (.l (zk (ql RO.q dkp) (zk (zk (zk (yw PO.pick) dka) dka) dka)))) (.b (.l (ql RO.s (zk (zk (zk (yw PO.pick) dka) dka) dka))) (.b (.b (.l (zk (zk (ql RO.p (vg tC)) tF) (zk (yw PO.len) dka))) (.l (ql RO.s (zk (zk (zk (yw PO.fn) dkn) dkp) (oQ dka []))))) (.b (.l (ql RO.s (zk (yw PO.not) dka))) (.l (zk (ql RO.q dkp) (zk (yw PO.load) dka))))))) (.l (ql RO.s (zk (zk (yw PO.zw) dkn) dka)))) (.b (.l (ql RO.s (zk (zk (yw PO.zao) dkn) dka))) (.l (zk (ql RO.q dkp) (zk (zk (vg zqt) dka) dka)))))) (.b (.b (.b (.b (.b (.l (zk (ql RO.q dkp) (zk (yw PO.len) dka))) (.l (zk (zk (ql RO.p (vg tC)) tF) (zk (yw PO.load) dka)))) (.l (zk (zk (ql RO.w (vg tC)) tF) (zk (yw WO.box) dka)))) (.b (.l (ql RO.s (zk (zk (yw PO.ext) dkn) dka))) (.l (zk (zk (ql RO.p (vg tC)) tF) (zk (yw PO.mv) dka))))) (.l (zk (zk (ql RO.w (vg tC)) tF) (zk (zk (yw WO.call) dkck) (oQ dka []))))) (.l (zk (ql RO.q dkp) (zk (yw PO.mv) dka))))))
def dkl:Rd (List RO):=oQ dkro []
def dI (R:List IR) (n:Nat):IR:=(Nat.rec (motive:=λ_=>Rd IR) (yw .skip) (λ_ q=>dzrj (.b (.b (.b (.l (yw IR.skip)) (.l (zk (zk (zk (yw IR.cond) dka) q) q))) (.b (.l (yw IR.ret)) (.b (.l (ql IR.reg dkl)) (.l (zk (zk (yw IR.block) dkn) q))))) (.b (.b (.b (.l (zk (ql IR.rO (oQ dkwo [])) (oQ (zk (ql (λa b=>(a,b)) dkro) (zk (ql (λa b=>(a,b)) dkn) (oQ dkwo []))) []))) (.b (.l (zk (yw IR.exit) dkn)) (.b (.b (.b (.l (zk (yw IR.bad) dkn)) (.l (zk (zk (zk (zk (yw IR.rf) dka) (oQ dkp [])) q) q))) (.l (ql (λk=>dzlg R k) (vg qcs)))) (.l (zk (yw IR.loop) q))))) (.l (zk (ql IR.seq q) q))) (.l (zk (ql (λl=>IR.seq (.reg l)) dkl) q))))) 200 n).1
def dA (r:List RO) (n:Nat):List RO:=(oQ dkro r n).1
end
end Go.Ev
namespace Go.Ev
open Go Go.Proofs
set_option maxRecDepth 100000
noncomputable section
abbrev aT0:Arg:=.t (.of 0)
abbrev aT1:Arg:=.t (.of 1)
abbrev aT2:Arg:=.t (.of 2)
abbrev aT3:Arg:=.t (.of 3)
abbrev aT4:Arg:=.t (.of 4)
abbrev aT5:Arg:=.t (.of 5)
abbrev aT6:Arg:=.t (.of 6)
abbrev aT7:Arg:=.t (.of 7)
abbrev aT8:Arg:=.t (.of 8)
abbrev aT9:Arg:=.t (.of 9)
abbrev aT10:Arg:=.t (.of 10)
abbrev aT11:Arg:=.t (.of 11)
abbrev aT12:Arg:=.t (.of 12)
abbrev aT13:Arg:=.t (.of 13)
abbrev aT14:Arg:=.t (.of 14)
abbrev aT15:Arg:=.t (.of 15)
abbrev aT16:Arg:=.t (.of 16)
abbrev aT17:Arg:=.t (.of 17)
abbrev aT18:Arg:=.t (.of 18)
abbrev aT21:Arg:=.t (.of 21)
abbrev aT22:Arg:=.t (.of 22)
abbrev aT23:Arg:=.t (.of 23)
abbrev aT24:Arg:=.t (.of 24)
abbrev aT25:Arg:=.t (.of 25)
abbrev aT26:Arg:=.t (.of 26)
abbrev aT27:Arg:=.t (.of 27)
abbrev aT28:Arg:=.t (.of 28)
abbrev aT29:Arg:=.t (.of 29)
abbrev aT30:Arg:=.t (.of 30)
abbrev aT31:Arg:=.t (.of 31)
abbrev aT34:Arg:=.t (.of 34)
abbrev aT35:Arg:=.t (.of 35)
abbrev aT36:Arg:=.t (.of 36)
abbrev aT39:Arg:=.t (.of 39)
abbrev aS0:Arg:=.s 0
abbrev aS1:Arg:=.s 1
abbrev aS2:Arg:=.s 2
abbrev aS3:Arg:=.s 3
abbrev aC0:Arg:=.c (I 0)
abbrev aC1:Arg:=.c (I 1)
abbrev aC4:Arg:=.c (I 4)
abbrev aC32:Arg:=.c (I 32)
abbrev F7.fr:=fr40
def F7.t0:IR:=.reg (dA [] 2508061983)
def F7.zaf (r:List RO):List RO:=dA r 451901679430420286184929429320529
def F7.r1_2:List RO:=F7.zaf []
def F7.rR (r:List RO):List RO:=dA r 30352370159845179840348186074949689875641
def F7.sQ:List RO:=F7.rR F7.r1_2
def F7.rQ (r:List RO):List RO:=dA r 267329944604609967
def F7.si:List RO:=F7.rQ F7.sQ
def F7.t1:IR:=.reg F7.si
def F7.t2:IR:=.reg (dA [] 24135647)
def F7.t6:IR:=.reg (dA [] 139232978536289645895164954691202512163)
def F7.t7:IR:=.reg (dA [] 343402321901)
def F7.t9:IR:=.reg (dA [] 6555485961883)
def F7.t10:IR:=.reg (dA [] 933750853864722554869636406195983305)
def F7.t11:IR:=.reg (dA [] 24135647)
def F7.t17:IR:=.reg (dA [] 3208547143)
def F7.t20:IR:=.seq F7.t7 (.seq (.cond aT22 .skip (.exit 0)) (.seq (.block 1 (.seq F7.t9 (.seq F7.t10 (.cond aT23 (.seq F7.t11 .ret) .skip)))) F7.t17))
def F7.t21:IR:=.loop F7.t20
def F7.t24:IR:=.reg (dA [] 1125838174961467528080739)
def F7.zoe (r:List RO):List RO:=dA r 2993118765
def F7.zwl:List RO:=F7.zoe []
def F7.zod (r:List RO):List RO:=dA r 39751698745159387727539773278459200729
def F7.zoc:List RO:=F7.zod F7.zwl
def F7.t25:IR:=.reg F7.zoc
def F7.t30:IR:=dI [] 30415167357711689928116918187604391713
def F7.t31:IR:=.reg (dA [] 3999178816527981819)
def F7.t32:IR:=.reg (dA [] 22219302637)
def F7.t34:IR:=.reg (dA [] 8262987733431988962769)
def F7.zoi (r:List RO):List RO:=dA r 1574474757556775
def F7.zwm:List RO:=F7.zoi []
def F7.zoh (r:List RO):List RO:=dA r 2581700291367629127497599286304001065
def F7.zwn:List RO:=F7.zoh F7.zwm
def F7.zog (r:List RO):List RO:=dA r 12561225015722920117946178777
def F7.zof:List RO:=F7.zog F7.zwn
def F7.t35:IR:=.reg F7.zof
def F7.t40:IR:=.reg [iQo 12 (.mv aC0)]
def F7.zom (r:List RO):List RO:=dA r 4979484205
def F7.zwo:List RO:=F7.zom []
def F7.zol (r:List RO):List RO:=dA r 89326691087903
def F7.zwp:List RO:=F7.zol F7.zwo
def F7.zok (r:List RO):List RO:=dA r 20190911995029377374590201976793
def F7.zoj:List RO:=F7.zok F7.zwp
def F7.t41:IR:=.reg F7.zoj
def F7.t44:IR:=.reg (dA [] 13907405803)
def F7.t46:IR:=.seq (.seq F7.t41 (.cond aT30 .skip (.exit 4))) (.block 5 F7.t44)
def F7.t47:IR:=.loop F7.t46
def F7.zop (r:List RO):List RO:=dA r 107836710173411745179225147
def F7.zwq:List RO:=F7.zop []
def F7.zoo (r:List RO):List RO:=dA r 40342209904079220068544742119385
def F7.zon:List RO:=F7.zoo F7.zwq
def F7.t49:IR:=.reg F7.zon
def F7.t54:IR:=.reg (dA [] 58066890419819)
def F7.t55:IR:=.reg (dA [] 71708109137901)
def F7.t57:IR:=.reg (dA [] 5222583)
def F7.t58:IR:=dI [] 920033502366752872831825036608082009870708860312736259241967791744341658245862925695429499108385
def F7.t59:IR:=.reg (dA [] 1053391516185811)
def F7.t60:IR:=dI [] 460016751183376436415912518304041004935354430156368129620983941902045095796582715255169196964897
def F7.t66:IR:=.reg (dA [] 27891959111)
def F7.t69:IR:=.seq F7.t55 (.seq (.cond aT34 .skip (.exit 6)) (.seq (.block 7 (.seq F7.t57 (.seq F7.t58 (.seq F7.t59 (.cond aT35 F7.t60 .skip))))) F7.t66))
def F7.t70:IR:=.loop F7.t69
def F7.t79:IR:=.reg (dA [] 30052027207)
def F7.t82:IR:=.seq F7.t32 (.seq (.cond aT28 .skip (.exit 2)) (.seq (.block 3 (.seq F7.t34 (.seq (.seq F7.t35 (.cond aT29 (.seq (.reg (dA [] 19133)) .ret) .skip)) (.seq F7.t40 (.seq (.block 4 F7.t47) (.seq (.seq F7.t49 (.cond aT31 (.seq (.reg (dA [] 19133)) .ret) .skip)) (.seq F7.t54 (.block 6 F7.t70)))))))) F7.t79))
def F7.t83:IR:=.loop F7.t82
def F7.t86:IR:=.reg (dA [] 66014036686303540915)
def F7.t91:IR:=.reg (dA [] 733693)
def F7.t92:IR:=.reg (dA [] 29166735203819)
def F7.t93:IR:=.reg (dA [] 42343375210061805)
def F7.t95:IR:=.reg (dA [] 5353197047)
def F7.t96:IR:=dI [] 9597681091418240563626098612169414487104185940057669780105743252227963548431130325875241119616033
def F7.t99:IR:=.reg (dA [] 9270562811719)
def F7.t102:IR:=.seq F7.t93 (.seq (.cond aT39 .skip (.exit 8)) (.seq (.block 9 (.seq F7.t95 F7.t96)) F7.t99))
def F7.t103:IR:=.loop F7.t102
def F7.t106:IR:=.reg (dA [] 4893501450639273948081698489)
def F7.zot (r:List RO):List RO:=dA r 49450287
def F7.zwr:List RO:=F7.zot []
def F7.zos (r:List RO):List RO:=dA r 72413
def F7.zws:List RO:=F7.zos F7.zwr
def F7.zor (r:List RO):List RO:=dA r 6856197570872668291919317349454362073
def F7.zoq:List RO:=F7.zor F7.zws
def F7.t107:IR:=.reg F7.zoq
def F7.t119:IR:=.seq F7.t0 (.seq (.seq F7.t1 (.cond aT18 (.seq F7.t2 .ret) .skip)) (.seq (.seq F7.t6 (.block 0 F7.t21)) (.seq F7.t24 (.seq (.seq F7.t25 (.cond aT24 (.seq (.reg (dA [] 19133)) .ret) .skip)) (.seq F7.t30 (.seq (.seq F7.t31 (.block 2 F7.t83)) (.seq (.seq F7.t86 (.cond aT36 (.seq (.reg (dA [] 19133)) .ret) .skip)) (.seq F7.t91 (.seq (.seq F7.t92 (.block 8 F7.t103)) (.seq F7.t106 (.seq F7.t107 .ret)))))))))))
def F7.b0:IR:=F7.t119
def F7.res:List RV:=[.t (.of 4)]
def F7:Fn:={ params:=[(.of 0),(.of 1),(.of 2)],res:=F7.res,body:=F7.b0,init:=in40 }
theorem F7.ok:fnA Tryz.prog Tryz.f7 [0,1,2,3,6,8,9,10,11,12,13,14,15,16,17,18,19,20,35,41,42,43,44,52,68,75,76,77,78,97,108,121,123,124,125,148,172,174,175,176]=some F7:=by kernel_rfl
abbrev F16.fr:=fr9
def F16.b4:IR:=dI [] 328649012178894017660539259121045479917754103699337535560819459826809405
def F16.b3:IR:=(.loop F16.b4)
def F16.g2 (X3:IR):IR:=(.block 0 X3)
def F16.b2:IR:=F16.g2 F16.b3
def F16.b9:IR:=dI [] 707319
def F16.b0:IR:=dI [F16.b2,F16.b9] 2053516381225854312665442894421674897399713625215
def F16.res:List RV:=[.t (.of 4)]
def F16:Fn:={ params:=[(.of 0),(.of 1),(.of 2)],res:=F16.res,body:=F16.b0,init:=in9 }
theorem F16.ok:fnA Tryz.prog Tryz.f16 [0,1,2,3,6,7,12,17,27]=some F16:=by kernel_rfl
abbrev F17.fr:=fr29
def F17.b0:IR:=dI [] 340306605757403380883928872828361657488234966530874324202383062998647961219578592896764580547044666351126860864684232099307165113518937286124810017821084638847422218638941408814049110879898156325749361401106450645075387626360326570310748811478022173563280323024922811734247115777413704150482736807905547182895911747046385827721146457791939307766297096615646644237657229272050402217459354267076990575943621968421010024183612423846284900224913031955460459320342069138914703071463505159121525790654920843526113192448925655043311200910890011814988222315220588678489484010779859951337751923266201209811771219968455424922283055476395050303251348983281440672992076426644347612921166716854103566087568798763474356820650415752589938271967462354388594825473257848409400536325951386461459090059064862265865667096405754559325872810106190657656457001635815857604390289486464514860596082232914351440286021672167920830084466815571043864844998815748730411817111377841967785687585006351849325684536905649515042155998929839174422326858030289181838745305986525976639394053349060610220742598497439990307803353810834954164575276260453129108775792698950899126828133290460310072604975866829950445382435530726004987354640184228642748097929327969139488946987734853952909813585080229440619664225171999009800237618996424825300200904395207845238929257239156451831
def F17.res:List RV:=[.t (.of 0)]
def F17:Fn:={ params:=[],res:=F17.res,body:=F17.b0,init:=in29 }
theorem F17.ok:fnA Tryz.prog Tryz.f17 [0,1,2,3,4,5,6,7,8,9,10,11,12,13,14,15,16,17,18,19,20,21,22,23,24,25,26,127,165]=some F17:=by kernel_rfl
abbrev F18.fr:=fr11
def F18.b4:IR:=dI [] 28102489763840569262544216271642844720097452408665397335533389326956092343
def F18.b3:IR:=(.loop F18.b4)
def F18.g2 (X3:IR):IR:=(.block 0 X3)
def F18.b2:IR:=F18.g2 F18.b3
def F18.b9:IR:=dI [] 79095
def F18.b0:IR:=dI [F18.b2,F18.b9] 8170089914684181327696165816511653144296274369524482687093874682385717509941602884771978299334402482014241380302151465294968453083157631
def F18.res:List RV:=[.t (.of 2)]
def F18:Fn:={ params:=[(.of 0)],res:=F18.res,body:=F18.b0,init:=in11 }
theorem F18.ok:fnA Tryz.prog Tryz.f18 [0,1,2,3,4,5,18,22,23,24,30]=some F18:=by kernel_rfl
abbrev F19.fr:=fr14
def F19.b16:IR:=dI [] 1202874605040422552730979521149520927590801081121837134678058616905309008405830431360727017046362813992619761933
def F19.b17:IR:=dI [] 25564847798
def F19.b12:IR:=dI [F19.b16,F19.b17] 464411920763485233675519196600052541648417750955698586540817577344873787303951533228493816634416278369980199384542552423037
def F19.b11:IR:=(.loop F19.b12)
def F19.g10 (X11:IR):IR:=(.block 2 X11)
def F19.b10:IR:=F19.g10 F19.b11
def F19.b18:IR:=dI [] 3462277622033554067008191187680360103
def F19.b19:IR:=dI [] 6339970742
def F19.b5:IR:=dI [F19.b10,F19.b18,F19.b19] 1610723676601087067164647610585574632213862538466234902021439695382213671901665853
def F19.b4:IR:=(.loop F19.b5)
def F19.g3 (X4:IR):IR:=(.block 0 X4)
def F19.b3:IR:=F19.g3 F19.b4
def F19.b20:IR:=dI [] 79095
def F19.b0:IR:=dI [F19.b3,F19.b20] 402816600698614902749490460029226611339251131639262268896013758499593873364786385765905679339981907940479
def F19.res:List RV:=[.t (.of 2)]
def F19:Fn:={ params:=[(.of 0)],res:=F19.res,body:=F19.b0,init:=in14 }
theorem F19.ok:fnA Tryz.prog Tryz.f19 [0,1,2,3,4,5,13,17,22,32,36,52,66,72]=some F19:=by kernel_rfl
abbrev F20.fr:=fr14
def F20.b0:IR:=dI [] 429293731765487050429059554926706778906806915234007596671577459196304399617978031743950711421741543408771649549839330173290664227087483813024567208451871460204588806384022144826318000452026561327132461858060007573971241426189254520116271710833100704292003298556323198438596038512922042668271790569616834154464906691523665786307800584907560245970100463962204782618295403859471721543972795884713239004411943180072774697447964433117320567288397721253564595067191670284551168711097832575
def F20.res:List RV:=[.t (.of 2)]
def F20:Fn:={ params:=[(.of 0)],res:=F20.res,body:=F20.b0,init:=in14 }
theorem F20.ok:fnA Tryz.prog Tryz.f20 [0,1,2,3,4,5,6,7,20,23,24,25,26,71]=some F20:=by kernel_rfl
abbrev F23.fr:=fr6
def F23.t0:IR:=.reg (dA [] 3777062890043)
def F23.t1:IR:=.reg (dA [] 3204363811675)
def F23.t2:IR:=.reg (dA [] 448523255)
def F23.t8:IR:=.reg (dA [] 239340742694541672467547603007161)
def F23.t11:IR:=.seq F23.t0 (.seq (.seq F23.t1 (.seq F23.t2 (.cond aT5 (.seq (.reg (dA [] 795506667)) .ret) .skip))) (.seq F23.t8 .ret))
def F23.b0:IR:=F23.t11
def F23.res:List RV:=[.t (.of 2),.t (.of 3)]
def F23:Fn:={ params:=[(.of 0)],res:=F23.res,body:=F23.b0,init:=in6 }
theorem F23.ok:fnA Tryz.prog Tryz.f23 [0,1,2,3,4,8]=some F23:=by kernel_rfl
abbrev F24.fr:=fr14
def F24.b0:IR:=dI [] 938365631074658393048018888115448047130722313284583337362289846911356543104384574415423619141840944686110700195271921891868978327901837153285845182591069341171689296432356009333139067703900658092419987600532041381229536063910275311
def F24.res:List RV:=[.t (.of 3),.t (.of 4)]
def F24:Fn:={ params:=[(.of 0),(.of 1)],res:=F24.res,body:=F24.b0,init:=in14 }
theorem F24.ok:fnA Tryz.prog Tryz.f24 [0,1,2,4,5,6,7,9,14,19,22,23,24,25]=some F24:=by kernel_rfl
abbrev F29.fr:=fr7
def F29.b0:IR:=dI [] 3566000021838559574925013867088854007002446458454660261213530244245564007656895373977011994947666901287876090038201450599671
def F29.res:List RV:=[.t (.of 2)]
def F29:Fn:={ params:=[(.of 0),(.of 1)],res:=F29.res,body:=F29.b0,init:=in7 }
theorem F29.ok:fnA Tryz.prog Tryz.f29 [0,1,4,5,10,14,25]=some F29:=by kernel_rfl
abbrev F31.fr:=fr28
def F31.b0:IR:=dI [] 2620130369908789023123117262241457474059482488083198867135891114316091149432986096644046169546248733388308727369789347444267420988415574130969575252123123131080009102090542427378102403899858588237273861183963629914262463325836565971996669898904376441100717907292797477754912297445753002559426830744725023117210217482584057131353594026141188445955960264912356633775735553601651525919591456174895931228256398226986022175997767577061280824646941095744177424959655666963799469631808399679423073952479124901738227042928549477423672463264695917276539209450656889132943234974581774773868153385177424542263574018780379306037540708496820899114564740988639943301390440584511761360286758345244027919167814324227092996663535
def F31.res:List RV:=[.t (.of 2),.t (.of 3)]
def F31:Fn:={ params:=[(.of 0)],res:=F31.res,body:=F31.b0,init:=in28 }
theorem F31.ok:fnA Tryz.prog Tryz.f31 [0,1,2,3,4,5,6,7,8,9,10,12,13,14,15,16,17,21,24,25,26,27,39,40,41,42,65,76]=some F31:=by kernel_rfl
abbrev F33.fr:=fr32
def F33.b0:IR:=dI [] 17986671661285535356832240133888924994523016202788190169897102112324628138688744319888021870102650522090687582885947500543513643260421440150003216907880382977505709426584920357616221028528366373008209008801699818757800279121330914910110682436696943602693757523710439698326728414531931229038809583632503684169969668982432524111458695747952509795320659780728942795141298377624971402001288553102113268364591392300102936599986784463437096931559597036290195818434126005481764418639311593857458151120527732464428083584679968487063288302149348226894336871619033994478183363393881041173148572355745235207193232936113245444920588648750098611854295444747724353047795216174616152916978761397495758487264131025936991176691776625373586996986721240602681569060948267531678093010691152167070675823699820862917427307775903744422542345280477416389047845743305468632099921990165135337711
def F33.res:List RV:=[.t (.of 2),.t (.of 3)]
def F33:Fn:={ params:=[(.of 0)],res:=F33.res,body:=F33.b0,init:=in32 }
theorem F33.ok:fnA Tryz.prog Tryz.f33 [0,1,2,3,4,5,6,7,9,10,12,14,15,16,17,21,26,29,30,31,32,38,39,40,41,53,54,55,56,75,97,120]=some F33:=by kernel_rfl
abbrev F35.fr:=fr5
def F35.t0:IR:=.reg (dA [] 2508061983)
def F35.zf1 (r:List RO):List RO:=iQm 4 0::r
def F35.r1_3:List RO:=F35.zf1 []
def F35.zaf (r:List RO):List RO:=dA r 1661281794782459264428578383803983962288122937
def F35.r1_2:List RO:=F35.zaf F35.r1_3
def F35.rR (r:List RO):List RO:=dA r 2836317898922539
def F35.sQ:List RO:=F35.rR F35.r1_2
def F35.rQ (r:List RO):List RO:=dA r 566055502765242035
def F35.si:List RO:=F35.rQ F35.sQ
def F35.t1:IR:=.reg F35.si
def F35.t3:IR:=.seq F35.t0 (.seq F35.t1 .ret)
def F35.b0:IR:=F35.t3
def F35.res:List RV:=[.t (.of 4)]
def F35:Fn:={ params:=[(.of 0),(.of 1),(.of 2)],res:=F35.res,body:=F35.b0,init:=in5 }
theorem F35.ok:fnA Tryz.prog Tryz.f35 [0,1,2,3,6]=some F35:=by kernel_rfl
abbrev F36.fr:=fr5
def F36.t0:IR:=.reg [iQo 1 (.mv (.c .ze))]
def F36.t1:IR:=.reg [iQo 2 (.mv (.c .ze))]
def F36.t2:IR:=.reg [iQo 3 (.mv aC0)]
def F36.t3:IR:=.reg (dA [] 2104980587)
def F36.t6:IR:=.reg (dA [] 2094063523374298906835)
def F36.t8:IR:=.reg (dA [] 396248171)
def F36.t10:IR:=.seq (.seq F36.t3 (.cond aT4 .skip (.exit 0))) (.seq (.block 1 F36.t6) F36.t8)
def F36.t11:IR:=.loop F36.t10
def F36.t14:IR:=.reg (dA [] 15415)
def F36.t18:IR:=.seq F36.t0 (.seq F36.t1 (.seq (.seq F36.t2 (.block 0 F36.t11)) (.seq F36.t14 .ret)))
def F36.b0:IR:=F36.t18
def F36.res:List RV:=[.t (.of 1)]
def F36:Fn:={ params:=[(.of 0)],res:=F36.res,body:=F36.b0,init:=in5 }
theorem F36.ok:fnA Tryz.prog Tryz.f36 [0,2,3,4,7]=some F36:=by kernel_rfl
abbrev F37.fr:=fr6
def F37.t0:IR:=.reg [iQo 1 (.mv aC0)]
def F37.t1:IR:=.reg [iQo 2 (.mv aC0)]
def F37.t2:IR:=.reg (dA [] 4112243417299)
def F37.t5:IR:=.reg (dA [] 3410341704162110921)
def F37.t6:IR:=.reg (dA [] 224261687)
def F37.t13:IR:=.reg (dA [] 60702827)
def F37.t15:IR:=.seq (.seq F37.t2 (.cond aT4 .skip (.exit 0))) (.seq (.block 1 (.seq F37.t5 (.seq F37.t6 (.cond aT5 (.seq (.reg (dA [] 15927)) .ret) .skip)))) F37.t13)
def F37.t16:IR:=.loop F37.t15
def F37.t19:IR:=.reg [iQo 1 (.mv aC0)]
def F37.t22:IR:=.seq F37.t0 (.seq (.seq F37.t1 (.block 0 F37.t16)) (.seq F37.t19 .ret))
def F37.b0:IR:=F37.t22
def F37.res:List RV:=[.t (.of 1)]
def F37:Fn:={ params:=[(.of 0)],res:=F37.res,body:=F37.b0,init:=in6 }
theorem F37.ok:fnA Tryz.prog Tryz.f37 [0,2,3,4,8,17]=some F37:=by kernel_rfl
abbrev F38.fr:=fr15
def F38.t0:IR:=.reg (dA [] 1266609439)
def F38.t1:IR:=.reg (dA [] 59363978386867)
def F38.t2:IR:=.reg (dA [] 80475885)
def F38.t4:IR:=.reg (dA [] 96631)
def F38.t5:IR:=.reg (dA [] 1027837)
def F38.t6:IR:=.reg (dA [] 4148928858789373731583048547)
def F38.t7:IR:=.reg (dA [] 1935657453)
def F38.t9:IR:=.reg (dA [] 67423391387)
def F38.t10:IR:=.reg (dA [] 899606572270625700161443)
def F38.t13:IR:=.reg (dA [] 869248839)
def F38.t16:IR:=.seq F38.t7 (.seq (.cond aT13 .skip (.exit 2)) (.seq (.block 3 (.seq F38.t9 F38.t10)) F38.t13))
def F38.t17:IR:=.loop F38.t16
def F38.t20:IR:=.reg (dA [] 589446845286640726225873)
def F38.t21:IR:=.reg (dA [] 19325)
def F38.t29:IR:=.reg (dA [] 266849095)
def F38.t32:IR:=.seq F38.t2 (.seq (.cond aT9 .skip (.exit 0)) (.seq (.block 1 (.seq F38.t4 (.seq F38.t5 (.seq (.seq F38.t6 (.block 2 F38.t17)) (.seq F38.t20 (.cond aT14 (.seq F38.t21 .ret) .skip)))))) F38.t29))
def F38.t33:IR:=.loop F38.t32
def F38.t36:IR:=.reg (dA [] 45949)
def F38.t39:IR:=.seq F38.t0 (.seq (.seq F38.t1 (.block 0 F38.t33)) (.seq F38.t36 .ret))
def F38.b0:IR:=F38.t39
def F38.res:List RV:=[.t (.of 3)]
def F38:Fn:={ params:=[(.of 0),(.of 1)],res:=F38.res,body:=F38.b0,init:=in15 }
theorem F38.ok:fnA Tryz.prog Tryz.f38 [0,1,2,4,5,6,8,11,12,13,19,20,21,22,36]=some F38:=by kernel_rfl
abbrev F39.fr:=fr2
def F39.t0:IR:=.reg (dA [] 38013)
def F39.t1:IR:=.reg (dA [] 34316224235)
def F39.t3:IR:=.seq F39.t0 (.seq F39.t1 .ret)
def F39.b0:IR:=F39.t3
def F39.res:List RV:=[.t (.of 1)]
def F39:Fn:={ params:=[(.of 0)],res:=F39.res,body:=F39.b0,init:=in2 }
theorem F39.ok:fnA Tryz.prog Tryz.f39 [0,2]=some F39:=by kernel_rfl
abbrev F40.fr:=fr14
def F40.t0:IR:=.reg [iQo 2 (.mv (.c (.str [])))]
def F40.t1:IR:=.reg (dA [] 235730693326866672739485186947)
def F40.t2:IR:=.reg (dA [] 1260183858711803243197345265539)
def F40.t3:IR:=.reg (dA [] 83538192706524115)
def F40.t4:IR:=.reg (dA [] 2402995610408410895497502703292141642497)
def F40.t6:IR:=.cond aT13 (.seq F40.t4 .ret) .skip
def F40.t8:IR:=.reg (dA [] 8991612990572949969807191723150810250115)
def F40.t9:IR:=.reg (dA [] 14946554695643136545316582181799435663235)
def F40.t10:IR:=dI [] 109263830139344555714915193340236756542059496893996090342082380192328875061646540361761
def F40.t13:IR:=.seq F40.t8 (.seq F40.t9 (.seq F40.t10 .ret))
def F40.t17:IR:=.seq F40.t0 (.seq F40.t1 (.seq F40.t2 (.seq (.seq F40.t3 F40.t6) F40.t13)))
def F40.b0:IR:=F40.t17
def F40.res:List RV:=[.t (.of 2)]
def F40:Fn:={ params:=[(.of 0),(.of 1)],res:=F40.res,body:=F40.b0,init:=in14 }
theorem F40.ok:fnA Tryz.prog Tryz.f40 [0,1,4,5,6,7,8,9,10,11,12,13,14,30]=some F40:=by kernel_rfl
abbrev F41.fr:=fr14
def F41.t0:IR:=.reg [iQo 2 (.mv (.c (.str [])))]
def F41.t1:IR:=.reg (dA [] 235730693326866672739485186947)
def F41.t2:IR:=.reg (dA [] 1260183858711803243197345265539)
def F41.t3:IR:=.reg (dA [] 83538192706524115)
def F41.t4:IR:=.reg (dA [] 546377944012513329799325913)
def F41.t6:IR:=.cond aT13 (.seq F41.t4 .ret) .skip
def F41.t8:IR:=.reg (dA [] 8991612990572949969807191723150810250115)
def F41.t9:IR:=.reg (dA [] 14946554695643136545316582181799435663235)
def F41.t10:IR:=dI [] 5260862057953971963234048623894593249309883555043105
def F41.t13:IR:=.seq F41.t8 (.seq F41.t9 (.seq F41.t10 .ret))
def F41.t17:IR:=.seq F41.t0 (.seq F41.t1 (.seq F41.t2 (.seq (.seq F41.t3 F41.t6) F41.t13)))
def F41.b0:IR:=F41.t17
def F41.res:List RV:=[.t (.of 2)]
def F41:Fn:={ params:=[(.of 0),(.of 1)],res:=F41.res,body:=F41.b0,init:=in14 }
theorem F41.ok:fnA Tryz.prog Tryz.f41 [0,1,4,5,6,7,8,9,10,11,12,13,14,30]=some F41:=by kernel_rfl
abbrev F42.fr:=fr2
def F42.t0:IR:=.reg [iQo 1 (.mv (.c (.str [])))]
def F42.t1:IR:=.reg (dA [] 69035016511274451)
def F42.t3:IR:=.seq F42.t0 (.seq F42.t1 .ret)
def F42.b0:IR:=F42.t3
def F42.res:List RV:=[.t (.of 1)]
def F42:Fn:={ params:=[(.of 0)],res:=F42.res,body:=F42.b0,init:=in2 }
theorem F42.ok:fnA Tryz.prog Tryz.f42 [0,2]=some F42:=by kernel_rfl
abbrev F43.fr:=fr7
def F43.b0:IR:=dI [] 1146659062241488417123402469919952122981116884807571532401015114940008463974492399
def F43.res:List RV:=[.t (.of 3),.t (.of 4)]
def F43:Fn:={ params:=[(.of 0),(.of 1)],res:=F43.res,body:=F43.b0,init:=in7 }
theorem F43.ok:fnA Tryz.prog Tryz.f43 [0,1,2,4,5,6,11]=some F43:=by kernel_rfl
abbrev F44.fr:=fr7
def F44.t0:IR:=.reg (dA [] 25560018207)
def F44.t1:IR:=.reg (dA [] 513725)
def F44.t2:IR:=.reg [iQo 5 (.mv aC0)]
def F44.t3:IR:=.reg (dA [] 7645973537998683989923)
def F44.zae (r:List RO):List RO:=iQm 4 0::r
def F44.r4_2:List RO:=F44.zae []
def F44.aK (r:List RO):List RO:=dA r 531165801242142099
def F44.oU:List RO:=F44.aK F44.r4_2
def F44.aJ (r:List RO):List RO:=dA r 4515935458629579952089
def F44.aZ:List RO:=F44.aJ F44.oU
def F44.t6:IR:=.reg F44.aZ
def F44.t8:IR:=.reg (dA [] 1597802987)
def F44.t10:IR:=.seq (.seq F44.t3 (.cond aT6 .skip (.exit 0))) (.seq (.block 1 F44.t6) F44.t8)
def F44.t11:IR:=.loop F44.t10
def F44.t14:IR:=.reg (dA [] 97271)
def F44.t18:IR:=.seq F44.t0 (.seq F44.t1 (.seq (.seq F44.t2 (.block 0 F44.t11)) (.seq F44.t14 .ret)))
def F44.b0:IR:=F44.t18
def F44.res:List RV:=[.t (.of 3)]
def F44:Fn:={ params:=[(.of 0),(.of 1)],res:=F44.res,body:=F44.b0,init:=in7 }
theorem F44.ok:fnA Tryz.prog Tryz.f44 [0,1,2,4,5,6,13]=some F44:=by kernel_rfl
abbrev F47.fr:=fr6
def F47.b0:IR:=dI [] 3448585070185220655120866367947002913298014684582997879066776770383241361013752912601409863387233200156893800418051082173317503232239
def F47.res:List RV:=[.t (.of 2),.t (.of 3)]
def F47:Fn:={ params:=[(.of 0)],res:=F47.res,body:=F47.b0,init:=in6 }
theorem F47.ok:fnA Tryz.prog Tryz.f47 [0,1,2,3,4,14]=some F47:=by kernel_rfl
abbrev F48.fr:=fr7
def F48.b0:IR:=dI [] 1119783714320804366890759255220263195134186658754905187308496925106466022975727
def F48.res:List RV:=[.t (.of 3),.t (.of 4)]
def F48:Fn:={ params:=[(.of 0),(.of 1)],res:=F48.res,body:=F48.b0,init:=in7 }
theorem F48.ok:fnA Tryz.prog Tryz.f48 [0,1,2,4,5,6,11]=some F48:=by kernel_rfl
abbrev F49.fr:=fr7
def F49.b4:IR:=dI [] 42731318269175772906873369454585926531125179444174166780028379631836725058173
def F49.b3:IR:=(.loop F49.b4)
def F49.g2 (X3:IR):IR:=(.block 0 X3)
def F49.b2:IR:=F49.g2 F49.b3
def F49.b9:IR:=dI [] 353527
def F49.b0:IR:=dI [F49.b2,F49.b9] 244798228547299399033829966286128787854583
def F49.res:List RV:=[.t (.of 2)]
def F49:Fn:={ params:=[(.of 0),(.of 1)],res:=F49.res,body:=F49.b0,init:=in7 }
theorem F49.ok:fnA Tryz.prog Tryz.f49 [0,1,4,5,10,14,25]=some F49:=by kernel_rfl
abbrev F51.fr:=fr13
def F51.b0:IR:=dI [] 224796890920923041674531948612682654896415692328771713449790995812424969193463437462873911024386367746592152772311218505398274135611667150109224447648199222604814510059739762145363041855265934897655219812681257362423285262575
def F51.res:List RV:=[.t (.of 2),.t (.of 3)]
def F51:Fn:={ params:=[(.of 0)],res:=F51.res,body:=F51.b0,init:=in13 }
theorem F51.ok:fnA Tryz.prog Tryz.f51 [0,1,2,3,4,5,7,11,13,14,15,16,27]=some F51:=by kernel_rfl
abbrev F53.fr:=fr9
def F53.b0:IR:=dI [] 59827510821602842237619837140150173200866130183671270962581127640862541791859154835425852153455177227351948124720259912497387902199
def F53.res:List RV:=[.t (.of 2)]
def F53:Fn:={ params:=[(.of 0),(.of 1)],res:=F53.res,body:=F53.b0,init:=in9 }
theorem F53.ok:fnA Tryz.prog Tryz.f53 [0,1,4,5,10,12,13,14,24]=some F53:=by kernel_rfl
abbrev F65.fr:=fr7
def F65.b0:IR:=dI [] 16285205011998367422156639628043681980334913686549227052309652858718548479969501998754823192918865835408771798944523404962772003592862968831565855306135359
def F65.res:List RV:=[.cell (.of 2) (some 2),.t (.of 3)]
def F65:Fn:={ params:=[(.of 0),(.of 1)],res:=F65.res,body:=F65.b0,init:=in7 }
theorem F65.ok:fnA Tryz.prog Tryz.f65 [0,1,4,5,6,7,20]=some F65:=by kernel_rfl
abbrev F69.fr:=fr10
def F69.b0:IR:=dI [] 4119783120363473827239658475266221997146492257633822719039818848569859274380269873354087426730112252364541682343062378095087015064167567936672475452381011323451759065039390980946186112824144311573643200245615489545195499157672363949778188228415
def F69.res:List RV:=[.cell (.of 1) (some 2),.t (.of 2)]
def F69:Fn:={ params:=[(.of 0)],res:=F69.res,body:=F69.b0,init:=in10 }
theorem F69.ok:fnA Tryz.prog Tryz.f69 [0,2,3,4,5,6,11,14,15,16]=some F69:=by kernel_rfl
abbrev F78.fr:=fr7
def F78.b0:IR:=dI [] 1119783714725203566898018852140268421439481118859463069330690724183491602770159
def F78.res:List RV:=[.t (.of 3),.t (.of 4)]
def F78:Fn:={ params:=[(.of 0),(.of 1)],res:=F78.res,body:=F78.b0,init:=in7 }
theorem F78.ok:fnA Tryz.prog Tryz.f78 [0,1,2,4,5,6,11]=some F78:=by kernel_rfl
abbrev F85.fr:=fr1
def F85.b0:IR:=dI [] 490182773675290436065042847537066890646384672457687351274599442935
def F85.res:List RV:=[.t (.of 0)]
def F85:Fn:={ params:=[],res:=F85.res,body:=F85.b0,init:=in1 }
theorem F85.ok:fnA Tryz.prog Tryz.f85 [0]=some F85:=by kernel_rfl
abbrev F86.fr:=fr8
def F86.b3:IR:=dI [] 2335375215593836598209330724948840485131126168043830366135
def F86.b2:IR:=(.loop F86.b3)
def F86.g1 (X2:IR):IR:=(.block 0 X2)
def F86.b1:IR:=F86.g1 F86.b2
def F86.b8:IR:=dI [] 315895
def F86.b0:IR:=dI [F86.b1,F86.b8] 849314468157659169870327
def F86.res:List RV:=[.t (.of 1)]
def F86:Fn:={ params:=[(.of 0)],res:=F86.res,body:=F86.b0,init:=in8 }
theorem F86.ok:fnA Tryz.prog Tryz.f86 [0,2,4,5,6,7,8,12]=some F86:=by kernel_rfl
abbrev F87.fr:=fr6
def F87.b0:IR:=dI [] 14202860314342046274905226115622082408439138055350511
def F87.res:List RV:=[.t (.of 5)]
def F87:Fn:={ params:=[(.of 0),(.of 1),(.of 2)],res:=F87.res,body:=F87.b0,init:=in6 }
theorem F87.ok:fnA Tryz.prog Tryz.f87 [0,1,2,3,4,6]=some F87:=by kernel_rfl
abbrev F88.fr:=fr4
def F88.b0:IR:=dI [] 5836183335352110145254647
def F88.res:List RV:=[.t (.of 2)]
def F88:Fn:={ params:=[(.of 0),(.of 1)],res:=F88.res,body:=F88.b0,init:=in4 }
theorem F88.ok:fnA Tryz.prog Tryz.f88 [0,1,4,5]=some F88:=by kernel_rfl
abbrev F89.fr:=fr14
def F89.b4:IR:=dI [] 9189649888442730661907512980088543190845806740048943382008320196182537816917555547203146628307285740955142533055327315386822807626970680694982091349839505360696458482430330193107999354046127709957258780980766647
def F89.b3:IR:=(.loop F89.b4)
def F89.g2 (X3:IR):IR:=(.block 0 X3)
def F89.b2:IR:=F89.g2 F89.b3
def F89.b9:IR:=dI [] 3385308092905136355201321969991960333763245799
def F89.b0:IR:=dI [F89.b2,F89.b9] 170599481045204959772627827717954126621975948929324981679854532081181070749461099647
def F89.res:List RV:=[.t (.of 3)]
def F89:Fn:={ params:=[(.of 0),(.of 1)],res:=F89.res,body:=F89.b0,init:=in14 }
theorem F89.ok:fnA Tryz.prog Tryz.f89 [0,1,2,4,5,6,7,8,16,17,18,19,20,48]=some F89:=by kernel_rfl
abbrev F90.fr:=fr6
def F90.b3:IR:=dI [] 19431953782799571713558397574873887160766463452879352458544749181
def F90.b2:IR:=(.loop F90.b3)
def F90.g1 (X2:IR):IR:=(.block 0 X2)
def F90.b1:IR:=F90.g1 F90.b2
def F90.b8:IR:=dI [] 169207
def F90.b0:IR:=dI [F90.b1,F90.b8] 1581971473798391
def F90.res:List RV:=[.t (.of 2)]
def F90:Fn:={ params:=[(.of 0),(.of 1)],res:=F90.res,body:=F90.b0,init:=in6 }
theorem F90.ok:fnA Tryz.prog Tryz.f90 [0,1,4,5,9,17]=some F90:=by kernel_rfl
abbrev F91.fr:=fr4
def F91.b0:IR:=dI [] 48077879674430123769473999025279
def F91.res:List RV:=[.t (.of 3)]
def F91:Fn:={ params:=[(.of 0),(.of 1)],res:=F91.res,body:=F91.b0,init:=in4 }
theorem F91.ok:fnA Tryz.prog Tryz.f91 [0,1,3,4]=some F91:=by kernel_rfl
abbrev F92.fr:=fr10
def F92.t0:IR:=.reg (dA [] 55497855)
def F92.t1:IR:=.reg [iQo 3 (.mv (.c .ze))]
def F92.t2:IR:=.reg (dA [] 15321113288187)
def F92.t3:IR:=.reg (dA [] 88731629)
def F92.t5:IR:=.reg (dA [] 6275939995)
def F92.t6:IR:=.reg (dA [] 1496836499528695)
def F92.t11:IR:=.reg (dA [] 14563210381678826071594100937)
def F92.t15:IR:=.reg (dA [] 125028679)
def F92.t18:IR:=.seq F92.t3 (.seq (.cond aT8 .skip (.exit 0)) (.seq (.block 1 (.seq F92.t5 (.seq (.seq F92.t6 (.cond aT9 (.seq (.reg (dA [] 4266579071)) .ret) .skip)) F92.t11))) F92.t15))
def F92.t19:IR:=.loop F92.t18
def F92.t22:IR:=.reg (dA [] 221805675)
def F92.t26:IR:=.seq F92.t0 (.seq F92.t1 (.seq (.seq F92.t2 (.block 0 F92.t19)) (.seq F92.t22 .ret)))
def F92.b0:IR:=F92.t26
def F92.res:List RV:=[.t (.of 1),.t (.of 2)]
def F92:Fn:={ params:=[(.of 0)],res:=F92.res,body:=F92.b0,init:=in10 }
theorem F92.ok:fnA Tryz.prog Tryz.f92 [0,2,3,4,6,7,8,9,10,14]=some F92:=by kernel_rfl
abbrev F93.fr:=fr36
def F93.t0:IR:=.reg (dA [] 98479043871)
def F93.t1:IR:=.reg (dA [] 49700059)
def F93.t2:IR:=.reg [iQo 4 (.mv (.c .ze))]
def F93.t3:IR:=.reg [iQo 5 (.mv (.c .ze))]
def F93.t4:IR:=.reg [iQo 6 (.mv aC1)]
def F93.t5:IR:=.reg (dA [] 35500646391982801)
def F93.t8:IR:=.reg (dA [] 287968969564036876084369625)
def F93.t9:IR:=dI [] 1484666845166688433899001814171310325996156279664737
def F93.t10:IR:=.reg (dA [] 963765918859129723)
def F93.t11:IR:=.reg (dA [] 163007371245)
def F93.t13:IR:=.reg (dA [] 848189598569694707665)
def F93.t14:IR:=dI [] 177466243867257911299030887023626873133491233
def F93.t17:IR:=.reg (dA [] 12872220487)
def F93.t20:IR:=.seq F93.t11 (.seq (.cond aT21 .skip (.exit 2)) (.seq (.block 3 (.seq F93.t13 F93.t14)) F93.t17))
def F93.t21:IR:=.loop F93.t20
def F93.t24:IR:=.reg (dA [] 8577123435)
def F93.zoa (r:List RO):List RO:=dA r 337586871911684879
def F93.zqu:List RO:=F93.zoa []
def F93.zn9 (r:List RO):List RO:=dA r 1817617495175701258516297142398092829537497
def F93.zn8:List RO:=F93.zn9 F93.zqu
def F93.t25:IR:=.reg F93.zn8
def F93.t28:IR:=.reg (dA [] 34308495979)
def F93.t30:IR:=.seq (.seq F93.t25 (.cond aT22 .skip (.exit 4))) (.block 5 F93.t28)
def F93.t31:IR:=.loop F93.t30
def F93.t33:IR:=.reg (dA [] 7225728311)
def F93.t36:IR:=.reg (dA [] 513048598463533924324083337635)
def F93.t37:IR:=.reg (dA [] 3782935707009412091)
def F93.t38:IR:=.reg (dA [] 961557815277)
def F93.t40:IR:=.reg (dA [] 61486925348507)
def F93.t41:IR:=.reg (dA [] 15849522609377864582520060323)
def F93.t44:IR:=.reg (dA [] 4282132807)
def F93.t47:IR:=.seq F93.t38 (.seq (.cond aT27 .skip (.exit 6)) (.seq (.block 7 (.seq F93.t40 F93.t41)) F93.t44))
def F93.t48:IR:=.loop F93.t47
def F93.t51:IR:=.reg (dA [] 2129610815239614851529771364308272016455319329)
def F93.t61:IR:=.reg (dA [] 524060011)
def F93.t63:IR:=.seq (.seq F93.t5 (.cond aT17 .skip (.exit 0))) (.seq (.block 1 (.seq F93.t8 (.seq F93.t9 (.seq (.seq F93.t10 (.block 2 F93.t21)) (.seq F93.t24 (.seq (.block 4 F93.t31) (.seq (.seq F93.t33 (.cond aT23 (.exit 1) .skip)) (.seq F93.t36 (.seq (.seq F93.t37 (.block 6 F93.t48)) F93.t51))))))))) F93.t61)
def F93.t64:IR:=.loop F93.t63
def F93.t67:IR:=.reg (dA [] 12000717)
def F93.t68:IR:=.reg (dA [] 29661882815)
def F93.t69:IR:=.reg (dA [] 62910942362093)
def F93.t71:IR:=.reg (dA [] 5189815)
def F93.t72:IR:=.reg (dA [] 4413129276353003)
def F93.t75:IR:=.reg (dA [] 1235501964395)
def F93.t76:IR:=.reg (dA [] 14743962663391848012584913)
def F93.t77:IR:=.reg (dA [] 8088762339637066138491)
def F93.t78:IR:=.reg (dA [] 3035340146413)
def F93.t80:IR:=.reg (dA [] 36869063953541251476079313)
def F93.t81:IR:=.reg (dA [] 2228081821603351410923630719518954617896921751297)
def F93.t84:IR:=.reg (dA [] 96611304775)
def F93.t87:IR:=.seq F93.t78 (.seq (.cond aT35 .skip (.exit 10)) (.seq (.block 11 (.seq F93.t80 F93.t81)) F93.t84))
def F93.t88:IR:=.loop F93.t87
def F93.t91:IR:=dI [] 3768506831535314443699594457722466539606193795869205205103765071728941976066516543242017462493072417
def F93.t98:IR:=.reg (dA [] 111643559239)
def F93.t101:IR:=.seq F93.t69 (.seq (.cond aT30 .skip (.exit 8)) (.seq (.block 9 (.seq F93.t71 (.seq (.seq F93.t72 (.cond aT31 (.exit 9) .skip)) (.seq F93.t75 (.seq F93.t76 (.seq (.seq F93.t77 (.block 10 F93.t88)) F93.t91)))))) F93.t98))
def F93.t102:IR:=.loop F93.t101
def F93.t105:IR:=.reg (dA [] 1821212079)
def F93.t113:IR:=.seq F93.t0 (.seq F93.t1 (.seq F93.t2 (.seq F93.t3 (.seq (.seq F93.t4 (.block 0 F93.t64)) (.seq F93.t67 (.seq (.seq F93.t68 (.block 8 F93.t102)) (.seq F93.t105 .ret)))))))
def F93.b0:IR:=F93.t113
def F93.res:List RV:=[.cell (.of 2) (some 2)]
def F93:Fn:={ params:=[(.of 0)],res:=F93.res,body:=F93.b0,init:=in36 }
theorem F93.ok:fnA Tryz.prog Tryz.f93 [0,1,2,3,4,5,6,7,8,9,10,12,13,14,15,16,17,24,43,44,45,46,72,76,84,85,86,87,106,107,108,112,119,120,121,122]=some F93:=by kernel_rfl
abbrev F94.fr:=fr4
def F94.b0:IR:=dI [] 8522773750418891976279455389058343906000681151775055636145865635661951495739723447130633343
def F94.res:List RV:=[.t (.of 3)]
def F94:Fn:={ params:=[(.of 0),(.of 1)],res:=F94.res,body:=F94.b0,init:=in4 }
theorem F94.ok:fnA Tryz.prog Tryz.f94 [0,1,2,4]=some F94:=by kernel_rfl
abbrev F95.fr:=fr5
def F95.b0:IR:=dI [] 30443692826634719299683910550026690359994619556677285469467775
def F95.res:List RV:=[.t (.of 3)]
def F95:Fn:={ params:=[(.of 0),(.of 1)],res:=F95.res,body:=F95.b0,init:=in5 }
theorem F95.ok:fnA Tryz.prog Tryz.f95 [0,1,2,4,5]=some F95:=by kernel_rfl
abbrev F96.fr:=fr2
def F96.t0:IR:=.reg (dA [] 79309)
def F96.t1:IR:=.reg (dA [] 426082567305081896403)
def F96.t3:IR:=.seq F96.t0 (.seq F96.t1 .ret)
def F96.b0:IR:=F96.t3
def F96.res:List RV:=[.cell (.of 1) (some 4)]
def F96:Fn:={ params:=[(.of 0)],res:=F96.res,body:=F96.b0,init:=in2 }
theorem F96.ok:fnA Tryz.prog Tryz.f96 [0,2]=some F96:=by kernel_rfl
abbrev F97.fr:=fr4
def F97.t0:IR:=.reg (dA [] 12771587359)
def F97.t1:IR:=.reg (dA [] 720209670575)
def F97.t2:IR:=.reg (dA [] 258097313855923)
def F97.t6:IR:=dI [] 641793469158551273707578060217673598555166500961
def F97.t9:IR:=.seq F97.t0 (.seq (.seq F97.t1 (.cond aT3 (.seq F97.t2 .ret) .skip)) (.seq F97.t6 .ret))
def F97.b0:IR:=F97.t9
def F97.res:List RV:=[.t (.of 2)]
def F97:Fn:={ params:=[(.of 0)],res:=F97.res,body:=F97.b0,init:=in4 }
theorem F97.ok:fnA Tryz.prog Tryz.f97 [0,1,2,4]=some F97:=by kernel_rfl
abbrev jr.fr:=fr9
def jr.t0:IR:=.reg [iQo 2 (.mv (.c .ze))]
def jr.t1:IR:=.reg (dA [] 101630598891)
def jr.t2:IR:=.reg (dA [] 15321113279995)
def jr.t3:IR:=.reg (dA [] 88731629)
def jr.t5:IR:=.reg (dA [] 6275939995)
def jr.t6:IR:=.reg (dA [] 230374416615497625233617)
def jr.t9:IR:=.reg (dA [] 125028679)
def jr.t12:IR:=.seq jr.t3 (.seq (.cond aT8 .skip (.exit 0)) (.seq (.block 1 (.seq jr.t5 jr.t6)) jr.t9))
def jr.t13:IR:=.loop jr.t12
def jr.t16:IR:=.reg (dA [] 7735)
def jr.t20:IR:=.seq jr.t0 (.seq jr.t1 (.seq (.seq jr.t2 (.block 0 jr.t13)) (.seq jr.t16 .ret)))
def jr.b0:IR:=jr.t20
def jr.res:List RV:=[.t (.of 2)]
def jr:Fn:={ params:=[(.of 0),(.of 1)],res:=jr.res,body:=jr.b0,init:=in9 }
theorem jr.ok:fnA Tryz.prog Tryz.f104 [0,1,4,5,7,10,11,12,13]=some jr:=by kernel_rfl
abbrev jv.fr:=fr7
def jv.t0:IR:=.reg [iQo 1 (.mv (.c .ze))]
def jv.t1:IR:=.reg (dA [] 31436551431915)
def jv.t2:IR:=.reg (dA [] 7378311275)
def jv.t3:IR:=.reg (dA [] 66319341)
def jv.t5:IR:=.reg (dA [] 97527)
def jv.t6:IR:=.reg (dA [] 57593604155475387769041)
def jv.t9:IR:=.reg (dA [] 99870535)
def jv.t12:IR:=.seq jv.t3 (.seq (.cond aT6 .skip (.exit 0)) (.seq (.block 1 (.seq jv.t5 jv.t6)) jv.t9))
def jv.t13:IR:=.loop jv.t12
def jv.t16:IR:=.reg (dA [] 15415)
def jv.t20:IR:=.seq jv.t0 (.seq jv.t1 (.seq (.seq jv.t2 (.block 0 jv.t13)) (.seq jv.t16 .ret)))
def jv.b0:IR:=jv.t20
def jv.res:List RV:=[.t (.of 1)]
def jv:Fn:={ params:=[(.of 0)],res:=jv.res,body:=jv.b0,init:=in7 }
theorem jv.ok:fnA Tryz.prog Tryz.f105 [0,2,3,4,8,9,10]=some jv:=by kernel_rfl
abbrev gu.fr:=fr11
def gu.t0:IR:=.reg (dA [] 785693)
def gu.t1:IR:=.reg (dA [] 29681160227323)
def gu.t2:IR:=.reg (dA [] 80475885)
def gu.t4:IR:=.reg (dA [] 1512535428907557764245120457)
def gu.t5:IR:=.reg (dA [] 481883690106676059)
def gu.t6:IR:=dI [] 80273514220229144906791406411864381607713241376401784628042457121
def gu.t11:IR:=.reg (dA [] 266849095)
def gu.t14:IR:=.seq gu.t2 (.seq (.cond aT9 .skip (.exit 0)) (.seq (.block 1 (.seq gu.t4 (.seq gu.t5 (.cond aT10 gu.t6 .skip)))) gu.t11))
def gu.t15:IR:=.loop gu.t14
def gu.t18:IR:=.seq gu.t0 (.seq gu.t1 (.block 0 gu.t15))
def gu.b0:IR:=gu.t18
def gu.res:List RV:=[]
def gu:Fn:={ params:=[(.of 0),(.of 1),(.of 2)],res:=gu.res,body:=gu.b0,init:=in11 }
theorem gu.ok:fnA Tryz.prog Tryz.f106 [0,1,2,4,6,7,8,9,10,11,17]=some gu:=by kernel_rfl
abbrev ru.fr:=fr3
def ru.t0:IR:=.reg (dA [] 5063505183)
def ru.t1:IR:=dI [] 2988807659502649632757071635966870842465
def ru.t3:IR:=.seq ru.t0 (.seq ru.t1 .ret)
def ru.b0:IR:=ru.t3
def ru.res:List RV:=[.cell (.of 2) (some 4)]
def ru:Fn:={ params:=[(.of 0)],res:=ru.res,body:=ru.b0,init:=in3 }
theorem ru.ok:fnA Tryz.prog Tryz.f107 [0,1,2]=some ru:=by kernel_rfl
end
end Go.Ev
