import Derived.Test.YtfgpjkchdelphaaGreatDoorEvC
import Derived.Test.YtfgpjkchdelphaaGreatDoorProg
import Derived.KernelRfl
set_option linter.unusedSimpArgs false
set_option linter.unusedVariables false
namespace Go.Ev
open Go
inductive HT (α:Type) where
  | l (x:α) | b (x y:HT α)
abbrev Rd (α:Type):=Nat->α×Nat
noncomputable section
abbrev zU:List AV:=[(.int .u8 0),(.int .u8 0),(.int .u8 0),(.int .u8 0),(.int .u8 0),(.int .u8 0),(.int .u8 0),(.int .u8 0),(.int .u8 0),(.int .u8 0),(.int .u8 0),(.int .u8 0),(.int .u8 0),(.int .u8 0),(.int .u8 0),(.int .u8 0),(.int .u8 0),(.int .u8 0),(.int .u8 0),(.int .u8 0),(.int .u8 0),(.int .u8 0),(.int .u8 0),(.int .u8 0),(.int .u8 0),(.int .u8 0),(.int .u8 0),(.int .u8 0),(.int .u8 0),(.int .u8 0),(.int .u8 0),(.int .u8 0),(.int .u8 0),(.int .u8 0),(.int .u8 0),(.int .u8 0),(.int .u8 0),(.int .u8 0),(.int .u8 0),(.int .u8 0),(.int .u8 0),(.int .u8 0),(.int .u8 0),(.int .u8 0),(.int .u8 0),(.int .u8 0),(.int .u8 0),(.int .u8 0),(.int .u8 0),(.int .u8 0),(.int .u8 0),(.int .u8 0),(.int .u8 0),(.int .u8 0),(.int .u8 0),(.int .u8 0),(.int .u8 0),(.int .u8 0),(.int .u8 0),(.int .u8 0),(.int .u8 0),(.int .u8 0),(.int .u8 0),(.int .u8 0),(.int .u8 0),(.int .u8 0),(.int .u8 0),(.int .u8 0),(.int .u8 0),(.int .u8 0),(.int .u8 0),(.int .u8 0),(.int .u8 0),(.int .u8 0),(.int .u8 0),(.int .u8 0),(.int .u8 0),(.int .u8 0),(.int .u8 0),(.int .u8 0),(.int .u8 0),(.int .u8 0),(.int .u8 0),(.int .u8 0),(.int .u8 0),(.int .u8 0),(.int .u8 0),(.int .u8 0),(.int .u8 0),(.int .u8 0),(.int .u8 0),(.int .u8 0),(.int .u8 0),(.int .u8 0),(.int .u8 0),(.int .u8 0),(.int .u8 0),(.int .u8 0),(.int .u8 0),(.int .u8 0),(.int .u8 0),(.int .u8 0),(.int .u8 0),(.int .u8 0),(.int .u8 0),(.int .u8 0),(.int .u8 0),(.int .u8 0),(.int .u8 0),(.int .u8 0),(.int .u8 0),(.int .u8 0),(.int .u8 0),(.int .u8 0),(.int .u8 0),(.int .u8 0),(.int .u8 0),(.int .u8 0),(.int .u8 0),(.int .u8 0),(.int .u8 0),(.int .u8 0),(.int .u8 0),(.int .u8 0),(.int .u8 0),(.int .u8 0),(.int .u8 0),(.int .u8 0)]
abbrev iSm (n:Nat):RO:=.s (.mv (.t (.of n)))
abbrev iQm (n m:Nat):RO:=.q (.of n) (.mv (.s m))
abbrev iQo (n:Nat) (o:PO):RO:=.q (.of n) o
abbrev iPf (n:Nat) (o:PO):RO:=.p .push (some (.s n,false)) o
abbrev iPt (n:Nat) (o:PO):RO:=.p .push (some (.s n,true)) o
abbrev iCa (n:Nat) (l:List Arg):RO:=.w .push none (.call (.c (.fn n (.of n) [])) l)
abbrev iWl (n:Nat) (o:WO):RO:=.w (.loc (.of n)) none o
abbrev iSr (l:List RO) (c:IR):IR:=.seq (.reg l) c
def fr1 (x0:AV):T AV:=(.n .e x0 .e)
def fr2 (x0 x1:AV):T AV:=(.n (.n .e x1 .e) x0 .e)
def fr3 (x0 x1 x2:AV):T AV:=(.n (.n .e x1 .e) x0 (.n .e x2 .e))
def fr4 (x0 x1 x2 x3:AV):T AV:=(.n (.n (.n .e x3 .e) x1 .e) x0 (.n .e x2 .e))
def fr5 (x0 x1 x2 x3 x4:AV):T AV:=(.n (.n (.n .e x3 .e) x1 .e) x0 (.n (.n .e x4 .e) x2 .e))
def fr6 (x0 x1 x2 x3 x4 x5:AV):T AV:=(.n (.n (.n .e x3 .e) x1 (.n .e x5 .e)) x0 (.n (.n .e x4 .e) x2 .e))
def fr7 (x0 x1 x2 x3 x4 x5 x6:AV):T AV:=(.n (.n (.n .e x3 .e) x1 (.n .e x5 .e)) x0 (.n (.n .e x4 .e) x2 (.n .e x6 .e)))
def fr8 (x0 x1 x2 x3 x4 x5 x6 x7:AV):T AV:=(.n (.n (.n (.n .e x7 .e) x3 .e) x1 (.n .e x5 .e)) x0 (.n (.n .e x4 .e) x2 (.n .e x6 .e)))
def fr9 (x0 x1 x2 x3 x4 x5 x6 x7 x8:AV):T AV:=(.n (.n (.n (.n .e x7 .e) x3 .e) x1 (.n .e x5 .e)) x0 (.n (.n (.n .e x8 .e) x4 .e) x2 (.n .e x6 .e)))
def fr10 (x0 x1 x2 x3 x4 x5 x6 x7 x8 x9:AV):T AV:=(.n (.n (.n (.n .e x7 .e) x3 .e) x1 (.n (.n .e x9 .e) x5 .e)) x0 (.n (.n (.n .e x8 .e) x4 .e) x2 (.n .e x6 .e)))
def fr11 (x0 x1 x2 x3 x4 x5 x6 x7 x8 x9 x10:AV):T AV:=(.n (.n (.n (.n .e x7 .e) x3 .e) x1 (.n (.n .e x9 .e) x5 .e)) x0 (.n (.n (.n .e x8 .e) x4 .e) x2 (.n (.n .e x10 .e) x6 .e)))
def fr12 (x0 x1 x2 x3 x4 x5 x6 x7 x8 x9 x10 x11:AV):T AV:=(.n (.n (.n (.n .e x7 .e) x3 (.n .e x11 .e)) x1 (.n (.n .e x9 .e) x5 .e)) x0 (.n (.n (.n .e x8 .e) x4 .e) x2 (.n (.n .e x10 .e) x6 .e)))
def fr13 (x0 x1 x2 x3 x4 x5 x6 x7 x8 x9 x10 x11 x12:AV):T AV:=(.n (.n (.n (.n .e x7 .e) x3 (.n .e x11 .e)) x1 (.n (.n .e x9 .e) x5 .e)) x0 (.n (.n (.n .e x8 .e) x4 (.n .e x12 .e)) x2 (.n (.n .e x10 .e) x6 .e)))
def fr14 (x0 x1 x2 x3 x4 x5 x6 x7 x8 x9 x10 x11 x12 x13:AV):T AV:=(.n (.n (.n (.n .e x7 .e) x3 (.n .e x11 .e)) x1 (.n (.n .e x9 .e) x5 (.n .e x13 .e))) x0 (.n (.n (.n .e x8 .e) x4 (.n .e x12 .e)) x2 (.n (.n .e x10 .e) x6 .e)))
def fr15 (x0 x1 x2 x3 x4 x5 x6 x7 x8 x9 x10 x11 x12 x13 x14:AV):T AV:=(.n (.n (.n (.n .e x7 .e) x3 (.n .e x11 .e)) x1 (.n (.n .e x9 .e) x5 (.n .e x13 .e))) x0 (.n (.n (.n .e x8 .e) x4 (.n .e x12 .e)) x2 (.n (.n .e x10 .e) x6 (.n .e x14 .e))))
def fr18 (x0 x1 x2 x3 x4 x5 x6 x7 x8 x9 x10 x11 x12 x13 x14 x15 x16 x17:AV):T AV:=(.n (.n (.n (.n (.n .e x15 .e) x7 .e) x3 (.n .e x11 .e)) x1 (.n (.n (.n .e x17 .e) x9 .e) x5 (.n .e x13 .e))) x0 (.n (.n (.n (.n .e x16 .e) x8 .e) x4 (.n .e x12 .e)) x2 (.n (.n .e x10 .e) x6 (.n .e x14 .e))))
def fr19 (x0 x1 x2 x3 x4 x5 x6 x7 x8 x9 x10 x11 x12 x13 x14 x15 x16 x17 x18:AV):T AV:=(.n (.n (.n (.n (.n .e x15 .e) x7 .e) x3 (.n .e x11 .e)) x1 (.n (.n (.n .e x17 .e) x9 .e) x5 (.n .e x13 .e))) x0 (.n (.n (.n (.n .e x16 .e) x8 .e) x4 (.n .e x12 .e)) x2 (.n (.n (.n .e x18 .e) x10 .e) x6 (.n .e x14 .e))))
def fr23 (x0 x1 x2 x3 x4 x5 x6 x7 x8 x9 x10 x11 x12 x13 x14 x15 x16 x17 x18 x19 x20 x21 x22:AV):T AV:=(.n (.n (.n (.n (.n .e x15 .e) x7 .e) x3 (.n (.n .e x19 .e) x11 .e)) x1 (.n (.n (.n .e x17 .e) x9 .e) x5 (.n (.n .e x21 .e) x13 .e))) x0 (.n (.n (.n (.n .e x16 .e) x8 .e) x4 (.n (.n .e x20 .e) x12 .e)) x2 (.n (.n (.n .e x18 .e) x10 .e) x6 (.n (.n .e x22 .e) x14 .e))))
def fr28 (x0 x1 x2 x3 x4 x5 x6 x7 x8 x9 x10 x11 x12 x13 x14 x15 x16 x17 x18 x19 x20 x21 x22 x23 x24 x25 x26 x27:AV):T AV:=(.n (.n (.n (.n (.n .e x15 .e) x7 (.n .e x23 .e)) x3 (.n (.n .e x19 .e) x11 (.n .e x27 .e))) x1 (.n (.n (.n .e x17 .e) x9 (.n .e x25 .e)) x5 (.n (.n .e x21 .e) x13 .e))) x0 (.n (.n (.n (.n .e x16 .e) x8 (.n .e x24 .e)) x4 (.n (.n .e x20 .e) x12 .e)) x2 (.n (.n (.n .e x18 .e) x10 (.n .e x26 .e)) x6 (.n (.n .e x22 .e) x14 .e))))
def fr29 (x0 x1 x2 x3 x4 x5 x6 x7 x8 x9 x10 x11 x12 x13 x14 x15 x16 x17 x18 x19 x20 x21 x22 x23 x24 x25 x26 x27 x28:AV):T AV:=(.n (.n (.n (.n (.n .e x15 .e) x7 (.n .e x23 .e)) x3 (.n (.n .e x19 .e) x11 (.n .e x27 .e))) x1 (.n (.n (.n .e x17 .e) x9 (.n .e x25 .e)) x5 (.n (.n .e x21 .e) x13 .e))) x0 (.n (.n (.n (.n .e x16 .e) x8 (.n .e x24 .e)) x4 (.n (.n .e x20 .e) x12 (.n .e x28 .e))) x2 (.n (.n (.n .e x18 .e) x10 (.n .e x26 .e)) x6 (.n (.n .e x22 .e) x14 .e))))
def fr32 (x0 x1 x2 x3 x4 x5 x6 x7 x8 x9 x10 x11 x12 x13 x14 x15 x16 x17 x18 x19 x20 x21 x22 x23 x24 x25 x26 x27 x28 x29 x30 x31:AV):T AV:=(.n (.n (.n (.n (.n (.n .e x31 .e) x15 .e) x7 (.n .e x23 .e)) x3 (.n (.n .e x19 .e) x11 (.n .e x27 .e))) x1 (.n (.n (.n .e x17 .e) x9 (.n .e x25 .e)) x5 (.n (.n .e x21 .e) x13 (.n .e x29 .e)))) x0 (.n (.n (.n (.n .e x16 .e) x8 (.n .e x24 .e)) x4 (.n (.n .e x20 .e) x12 (.n .e x28 .e))) x2 (.n (.n (.n .e x18 .e) x10 (.n .e x26 .e)) x6 (.n (.n .e x22 .e) x14 (.n .e x30 .e)))))
def fr36 (x0 x1 x2 x3 x4 x5 x6 x7 x8 x9 x10 x11 x12 x13 x14 x15 x16 x17 x18 x19 x20 x21 x22 x23 x24 x25 x26 x27 x28 x29 x30 x31 x32 x33 x34 x35:AV):T AV:=(.n (.n (.n (.n (.n (.n .e x31 .e) x15 .e) x7 (.n .e x23 .e)) x3 (.n (.n (.n .e x35 .e) x19 .e) x11 (.n .e x27 .e))) x1 (.n (.n (.n (.n .e x33 .e) x17 .e) x9 (.n .e x25 .e)) x5 (.n (.n .e x21 .e) x13 (.n .e x29 .e)))) x0 (.n (.n (.n (.n (.n .e x32 .e) x16 .e) x8 (.n .e x24 .e)) x4 (.n (.n .e x20 .e) x12 (.n .e x28 .e))) x2 (.n (.n (.n (.n .e x34 .e) x18 .e) x10 (.n .e x26 .e)) x6 (.n (.n .e x22 .e) x14 (.n .e x30 .e)))))
def fr37 (x0 x1 x2 x3 x4 x5 x6 x7 x8 x9 x10 x11 x12 x13 x14 x15 x16 x17 x18 x19 x20 x21 x22 x23 x24 x25 x26 x27 x28 x29 x30 x31 x32 x33 x34 x35 x36:AV):T AV:=(.n (.n (.n (.n (.n (.n .e x31 .e) x15 .e) x7 (.n .e x23 .e)) x3 (.n (.n (.n .e x35 .e) x19 .e) x11 (.n .e x27 .e))) x1 (.n (.n (.n (.n .e x33 .e) x17 .e) x9 (.n .e x25 .e)) x5 (.n (.n .e x21 .e) x13 (.n .e x29 .e)))) x0 (.n (.n (.n (.n (.n .e x32 .e) x16 .e) x8 (.n .e x24 .e)) x4 (.n (.n (.n .e x36 .e) x20 .e) x12 (.n .e x28 .e))) x2 (.n (.n (.n (.n .e x34 .e) x18 .e) x10 (.n .e x26 .e)) x6 (.n (.n .e x22 .e) x14 (.n .e x30 .e)))))
abbrev in1:T AV:=fr1 .u
abbrev in2:T AV:=fr2 .u .u
abbrev in3:T AV:=fr3 .u .u .u
abbrev in4:T AV:=fr4 .u .u .u .u
abbrev in5:T AV:=fr5 .u .u .u .u .u
abbrev in6:T AV:=fr6 .u .u .u .u .u .u
abbrev in7:T AV:=fr7 .u .u .u .u .u .u .u
abbrev in8:T AV:=fr8 .u .u .u .u .u .u .u .u
abbrev in9:T AV:=fr9 .u .u .u .u .u .u .u .u .u
abbrev in10:T AV:=fr10 .u .u .u .u .u .u .u .u .u .u
abbrev in11:T AV:=fr11 .u .u .u .u .u .u .u .u .u .u .u
abbrev in12:T AV:=fr12 .u .u .u .u .u .u .u .u .u .u .u .u
abbrev in13:T AV:=fr13 .u .u .u .u .u .u .u .u .u .u .u .u .u
abbrev in14:T AV:=fr14 .u .u .u .u .u .u .u .u .u .u .u .u .u .u
abbrev in15:T AV:=fr15 .u .u .u .u .u .u .u .u .u .u .u .u .u .u .u
abbrev in18:T AV:=fr18 .u .u .u .u .u .u .u .u .u .u .u .u .u .u .u .u .u .u
abbrev in19:T AV:=fr19 .u .u .u .u .u .u .u .u .u .u .u .u .u .u .u .u .u .u .u
abbrev in23:T AV:=fr23 .u .u .u .u .u .u .u .u .u .u .u .u .u .u .u .u .u .u .u .u .u .u .u
abbrev in28:T AV:=fr28 .u .u .u .u .u .u .u .u .u .u .u .u .u .u .u .u .u .u .u .u .u .u .u .u .u .u .u .u
abbrev in29:T AV:=fr29 .u .u .u .u .u .u .u .u .u .u .u .u .u .u .u .u .u .u .u .u .u .u .u .u .u .u .u .u .u
abbrev in32:T AV:=fr32 .u .u .u .u .u .u .u .u .u .u .u .u .u .u .u .u .u .u .u .u .u .u .u .u .u .u .u .u .u .u .u .u
abbrev in36:T AV:=fr36 .u .u .u .u .u .u .u .u .u .u .u .u .u .u .u .u .u .u .u .u .u .u .u .u .u .u .u .u .u .u .u .u .u .u .u .u
abbrev in37:T AV:=fr37 .u .u .u .u .u .u .u .u .u .u .u .u .u .u .u .u .u .u .u .u .u .u .u .u .u .u .u .u .u .u .u .u .u .u .u .u .u
def vz (n:Nat):HT Pa:=.l (.of n)
def qw (n:Nat):HT Nat:=.l n
def yg {α:Type} (x:α):Rd α:=λn=>(x,n)
def ax (n:Nat):HT (Rd Arg):=.l (yg (.s n))
def fP (n:Nat):HT (Rd Arg):=.l (yg (.t (.of n)))
def si (n:Nat):HT (Rd Arg):=.l (yg (.c (I n)))
def dzrk (b:Nat):Rd Nat:=λn=>(Nat.mod n b,Nat.div n b)
def dzrb {α β:Type} (a:Rd α) (f:α->Rd β):Rd β:=λn=>Prod.rec (λx m=>f x m) (a n)
def zh {α β:Type} (f:Rd (α->β)) (a:Rd α):Rd β:=λn=>Prod.rec (λg m=>Prod.rec (λx k=>(g x,k)) (a m)) (f n)
def uq {α β:Type} (g:α->β) (a:Rd α):Rd β:=λn=>Prod.rec (λx k=>(g x,k)) (a n)
def qx {α:Type} (t:HT α):Rd α:=HT.rec (λx n=>(x,n)) (λ_ _ f g n=>bif Nat.beq (Nat.mod n 2) 0 then f (Nat.div n 2) else g (Nat.div n 2)) t
def dzrj {α:Type} (t:HT (Rd α)):Rd α:=dzrb (qx t) (λf=>f)
def dzlg (l:List IR):Nat->IR:=List.rec (λ_=>.skip) (λx _ ih k=>Nat.rec x (λm _=>ih m) k) l
def zzd:HT (Rd Arg):=(.b (ax 0) (.b (.b (.b (.b (fP 3) (fP 2)) (.b (.b (.b (ax 5) (.b (.b (.b (si 7) (ax 13)) (.b (.b (.l (yg (.c (.int .u64 4294967295)))) (.l (yg (.c (.str [45]))))) (.l (yg (.c (.int .u32 1)))))) (si 2))) (fP 7)) (.b (.b (fP 10) (.b (ax 8) (fP 13))) (.b (.b (.b (si 3) (fP 15)) (.b (fP 16) (.b (.l (yg (.c (.int .u32 2)))) (.l (yg (.c (.str [49]))))))) (.b (.b (.b (ax 12) (fP 17)) (.b (fP 23) (fP 25))) (.b (.b (fP 29) (.l (uq Arg.s (dzrk 64)))) (.l (yg (.c (.str [48,48,48,49,48,50,48,51,48,52,48,53,48,54,48,55,48,56,48,57,49,48,49,49,49,50,49,51,49,52,49,53,49,54,49,55,49,56,49,57,50,48,50,49,50,50,50,51,50,52,50,53,50,54,50,55,50,56,50,57,51,48,51,49,51,50,51,51,51,52,51,53,51,54,51,55,51,56,51,57,52,48,52,49,52,50,52,51,52,52,52,53,52,54,52,55,52,56,52,57,53,48,53,49,53,50,53,51,53,52,53,53,53,54,53,55,53,56,53,57,54,48,54,49,54,50,54,51,54,52,54,53,54,54,54,55,54,56,54,57,55,48,55,49,55,50,55,51,55,52,55,53,55,54,55,55,55,56,55,57,56,48,56,49,56,50,56,51,56,52,56,53,56,54,56,55,56,56,56,57,57,48,57,49,57,50,57,51,57,52,57,53,57,54,57,55,57,56,57,57])))))))))) (.b (.b (.b (fP 6) (.b (.l (yg (.c (.bool true)))) (fP 8))) (.b (.b (.b (.b (fP 18) (.b (.l (uq (λk=>.t (.of k)) (dzrk 512))) (.l (yg (.c (.int .u32 100)))))) (.b (ax 10) (.b (si 16) (si 4)))) (.l (yg (.c .zb)))) (.l (yg (.c (.bool false)))))) (ax 1))) (.b (.b (.b (ax 2) (.b (.b (.b (.b (.b (fP 24) (.b (.l (yg (.c (.int .u32 10000)))) (.l (yg (.c (.int .u64 0)))))) (.b (.b (fP 27) (fP 28)) (.b (fP 34) (.b (.l (yg (.c (.int .u64 100000000)))) (.l (yg (.c (.int .u64 16)))))))) (.b (.b (.b (.b (.l (yg (.c (.int .u64 8)))) (.l (yg (.c (.int .u8 48))))) (.b (.l (yg (.c (.str [0,1,2,2,3,3,3,3,4,4,4,4,4,4,4,4,5,5,5,5,5,5,5,5,5,5,5,5,5,5,5,5,6,6,6,6,6,6,6,6,6,6,6,6,6,6,6,6,6,6,6,6,6,6,6,6,6,6,6,6,6,6,6,6,7,7,7,7,7,7,7,7,7,7,7,7,7,7,7,7,7,7,7,7,7,7,7,7,7,7,7,7,7,7,7,7,7,7,7,7,7,7,7,7,7,7,7,7,7,7,7,7,7,7,7,7,7,7,7,7,7,7,7,7,7,7,7,7,8,8,8,8,8,8,8,8,8,8,8,8,8,8,8,8,8,8,8,8,8,8,8,8,8,8,8,8,8,8,8,8,8,8,8,8,8,8,8,8,8,8,8,8,8,8,8,8,8,8,8,8,8,8,8,8,8,8,8,8,8,8,8,8,8,8,8,8,8,8,8,8,8,8,8,8,8,8,8,8,8,8,8,8,8,8,8,8,8,8,8,8,8,8,8,8,8,8,8,8,8,8,8,8,8,8,8,8,8,8,8,8,8,8,8,8,8,8,8,8,8,8,8,8,8,8,8,8])))) (.l (yg (.c (.str [110,111,114,109,97,108])))))) (.b (.b (.l (yg (.c (.str [45,49])))) (.l (yg (.c (.str [47]))))) (.b (.l (yg (.c (.str [50,47,51])))) (.l (yg (.c (.str [97,115,115,111,99,105,97,116,105,118,101]))))))) (.b (.b (.b (.l (yg (.c (I (-4000000000000000000))))) (.l (yg (.c (I (-9223372036854775808)))))) (.b (si 4000000000000000000) (.l (yg (.c .nW))))) (.b (.b (.b (.l (yg (.c (.fn 109 (.of 109) [])))) (.l (yg (.c (.fn 180 (.of 180) []))))) (.b (.l (yg (.c (.fn 220 (.of 220) [])))) (.l (yg (.c (.fn 221 (.of 221) [])))))) (.b (.b (.l (yg (.c (.fn 222 (.of 222) [])))) (.l (yg (.c (.fn 223 (.of 223) []))))) (.b (.l (yg (.c (.fn 224 (.of 224) [])))) (.l (yg (.c (.fn 225 (.of 225) [])))))))))) (.b (.b (.b (.b (.b (.b (.l (yg (.c (.fn 226 (.of 226) [])))) (.l (yg (.c (.fn 227 (.of 227) []))))) (.b (.l (yg (.c (.fp (aJ 2))))) (.l (yg (.c (.int .u32 256)))))) (.b (.b (.l (yg (.c (.int .u32 48)))) (.l (yg (.c (.int .u32 65536))))) (.b (.l (yg (.c (.int .u64 1)))) (.l (yg (.c (.int .u64 1000000000000000000))))))) (.b (.b (.b (.l (yg (.c (.int .u64 18)))) (.l (yg (.c (.int .u64 256))))) (.b (.l (yg (.c (.int .u64 4294967296)))) (.l (yg (.c (.int .u64 65536)))))) (.b (.b (.l (yg (.c (.int .u64 9223372036854775807)))) (.l (yg (.c (.int .u8 47))))) (.b (.l (yg (.c (.int .u8 57)))) (.l (yg (.c (.str [109,111,115,116,45,112,101,114,102,101,99,116])))))))) (.b (.b (.b (.b (.l (yg (.c (.str [32])))) (.l (yg (.c (.str [45,49,47,51]))))) (.b (.l (yg (.c (.str [45,50,47,51])))) (.l (yg (.c (.str [48,49,50,51,52,53,54,55,56,57,97,98,99,100,101,102,103,104,105,106,107,108,109,110,111,112,113,114,115,116,117,118,119,120,121,122])))))) (.b (.b (.l (yg (.c (.str [48,49,50,51,52,53,54,55,56,57])))) (.l (yg (.c (.str [49,47,51]))))) (.b (.l (yg (.c (.str [50])))) (.l (yg (.c (.str [52,47,51]))))))) (.b (.b (.b (.l (yg (.c (.str [54])))) (.l (yg (.c (.str [55]))))) (.b (.l (yg (.c (.str [98,105,109,97,103,105,99])))) (.l (yg (.c (.str [98,111,114,100,101,114,101,100])))))) (.b (.b (.l (yg (.c (I (-999999999))))) (si 1048576)) (.b (si 78913) (si 999999999)))))) (fP 12))) (.b (fP 9) (.b (.b (.b (.l (yg (.c (.str [109,97,103,105,99])))) (.l (yg (.c (I (-1)))))) (.b (si 1000000000) (si 15))) (ax 6))))) (.b (si 0) (.b (ax 3) (.b (.b (.b (.b (si 8) (si 9)) (.b (fP 19) (.l (yg (.c (.str [48])))))) (.b (fP 14) (.b (si 5) (.b (.l (yg (.c (.int .u8 45)))) (.l (yg (.c (.str [112,97,110,100,105,97,103,111,110,97,108])))))))) (.b (.b (.b (.b (si 12) (si 6)) (.b (ax 11) (fP 21))) (ax 7)) (.b (.b (.b (fP 22) (fP 26)) (.b (fP 33) (.l (yg (.c (.int .u64 32)))))) (.l (uq (λk=>.c (I (.ofNat k))) (dzrk 16384))))))))) (.b (.b (fP 0) (fP 1)) (.b (.b (fP 5) (si 1)) (.b (fP 4) (.b (ax 4) (.b (fP 11) (.b (.b (si 10) (ax 9)) (.b (fP 20) (.b (.l (yg (.c (.str [115,101,109,105,109,97,103,105,99])))) (.l (yg (.c (.str [])))))))))))))))
def zn5:HT Nat:=(.b (qw 0) (.b (.b (.b (qw 4) (.b (.b (.b (.b (.b (.b (qw 56) (qw 64)) (qw 9)) (qw 5)) (.b (.b (.b (.b (qw 10) (qw 117)) (.b (qw 12) (qw 128))) (.b (.b (qw 138) (qw 14)) (.b (qw 174) (qw 176)))) (.b (.b (.b (qw 185) (qw 20)) (.b (qw 238) (qw 239))) (.b (.b (qw 244) (qw 273)) (.b (qw 274) (qw 275)))))) (qw 8)) (.b (.b (qw 24) (.b (.b (.b (.b (qw 276) (qw 279)) (.b (qw 280) (qw 32))) (qw 16)) (.b (qw 6) (qw 7)))) (qw 3)))) (qw 2)) (qw 1)))
def dkpa:HT Pa:=(.b (.b (vz 2) (.b (vz 4) (.b (vz 7) (.b (.b (.b (.b (vz 34) (.b (vz 31) (vz 32))) (.b (.b (.b (vz 117) (vz 138)) (.b (vz 174) (vz 176))) (.b (.b (vz 185) (vz 238)) (.b (vz 239) (vz 244))))) (.b (.b (.b (.b (vz 273) (vz 274)) (.b (vz 275) (vz 276))) (.b (.b (vz 279) (vz 280)) (.b (vz 35) (vz 36)))) (.b (vz 28) (vz 29)))) (vz 9))))) (.b (.b (.b (vz 1) (vz 6)) (vz 3)) (.b (.b (.b (.b (vz 13) (vz 12)) (.b (.b (vz 14) (vz 18)) (vz 0))) (vz 5)) (.b (.b (.b (.b (vz 16) (vz 17)) (.b (.b (vz 21) (.b (vz 30) (vz 33))) (vz 15))) (vz 8)) (.b (.b (.b (.b (vz 19) (vz 20)) (.b (vz 22) (vz 23))) (.b (.b (vz 24) (vz 25)) (.b (vz 26) (vz 27)))) (.b (vz 10) (vz 11)))))))
def zac:HT (List AV):=(.b (.b (.b (.b (.l [(I 0),(I 0)]) (.l [(.str []),.nW])) (.b (.l [(.str [])]) (.l [(.bool false),.zb]))) (.l [(I 0)])) (.b (.l [(I 0),.zb]) (.b (.l [(I 0),.zb,(I 0),.zb]) (.b (.b (.b (.l [(I 0),.zb,(I 0),.zb,(I 0),.zb,(I 0),.zb]) (.l [.zb,.zb,(I 0)])) (.b (.b (.l [(.int .u64 0)]) (.l [.zb,.zb])) (.b (.b (.l [(.int .u8 0),(.int .u8 0),(.int .u8 0),(.int .u8 0),(.int .u8 0),(.int .u8 0),(.int .u8 0),(.int .u8 0),(.int .u8 0),(.int .u8 0),(.int .u8 0),(.int .u8 0),(.int .u8 0),(.int .u8 0),(.int .u8 0),(.int .u8 0),(.int .u8 0),(.int .u8 0),(.int .u8 0),(.int .u8 0),(.int .u8 0),(.int .u8 0),(.int .u8 0),(.int .u8 0)]) (.l [(I 0),(I 0),.zb])) (.b (.l [.nW]) (.l [.rC,.zb]))))) (.l [.zb])))))
def dkav:HT AV:=(.l (.bool false))
def dkoa:HT (Option Arg):=(.b (.l none) (.b (.b (.l (some (.c (I 1)))) (.b (.b (.l (some (.s 2))) (.l (some (.s 8)))) (.b (.l (some (.s 3))) (.b (.l (some (.s 1))) (.l (some (.s 16))))))) (.l (some (.s 0)))))
def dkon:HT (Option Nat):=(.l none)
def dkik:HT IntKind:=(.b (.b (.l .u32) (.l .u8)) (.b (.l .i64) (.l .u64)))
def dkkk:HT KK:=(.l .str)
def dkbo:HT Bool:=(.b (.l false) (.l true))
def ru:HT Dst:=(.b (.b (.l .none) (.b (.b (.b (.b (.b (.b (.b (.l (.loc (.of 16))) (.l (.loc (.of 20)))) (.b (.l (.loc (.of 21))) (.l (.loc (.of 31))))) (.l (.loc (.of 12)))) (.b (.l (.loc (.of 7))) (.b (.b (.l (.loc (.of 35))) (.l (.loc (.of 8)))) (.l (.loc (.of 13)))))) (.l (.loc (.of 4)))) (.l (.loc (.of 1)))) (.b (.l (.loc (.of 2))) (.b (.l (.loc (.of 3))) (.b (.l (.loc (.of 5))) (.b (.b (.l (.loc (.of 6))) (.l (.loc (.of 10)))) (.b (.l (.loc (.of 9))) (.b (.l (.loc (.of 11))) (.l (.loc (.of 14))))))))))) (.l .push))
def zn6:HT (Arg->Arg->PO):=(.b (.b (.b (.b (.b (.b (.l (PO.bin .neq .str)) (.l (PO.bin .add .str))) (.l (PO.bin .eql (.nil .sl)))) (.l (PO.bin .geq .int))) (.b (.l (PO.bin .mul .int)) (.l (PO.bin .eql .int)))) (.b (.l (PO.bin .sub .int)) (.b (.b (.b (.b (.l (PO.bin .neq .bool)) (.l (PO.bin .and .int))) (.l (PO.bin .eql .str))) (.b (.b (.b (.l (PO.bin .eql .bool)) (.b (.l (PO.bin .eql (.agg 2))) (.l (PO.bin .neq (.nil .sl))))) (.l (PO.bin .leq .int))) (.l (PO.bin .shr .int)))) (.b (.l (PO.bin .quo .int)) (.l (PO.bin .rem .int)))))) (.b (.l (PO.bin .add .int)) (.b (.b (.l (PO.bin .gtr .int)) (.l (PO.bin .neq .int))) (.l (PO.bin .lss .int)))))
def zze:HT Nat:=(.b (.b (.b (.b (.b (.b (qw 10) (.b (.b (.b (qw 26) (.b (qw 23) (qw 29))) (qw 11)) (.b (.b (.b (qw 38) (qw 49)) (qw 13)) (.b (qw 18) (qw 14))))) (qw 7)) (qw 4)) (qw 3)) (qw 2)) (.b (.b (.b (.b (qw 8) (.b (.b (qw 12) (.b (.b (.b (qw 16) (qw 17)) (.b (qw 19) (qw 24))) (qw 15))) (qw 9))) (.b (qw 6) (qw 5))) (qw 1)) (qw 0)))
def zzf:HT Nat:=(.b (.l 1) (.b (.l 2) (.l 0)))
def dka:Rd Arg:=dzrj zzd
def rz:Rd (Option (Arg×Bool)):=dzrj ((.b (.b (.l (uq (λa=>some (a,false)) dka)) (.l (uq (λa=>some (a,true)) dka))) (.l (yg none))))
def dkck:Rd Arg:=dzrj ((.b (.l dka) (.l (uq (λk=>.c (.fn k (.of k) [])) (dzrk 512)))))
def dklp:Rd (Nat×Nat×Arg):=zh (uq (λa b=>(a,b)) (qx zn5)) (zh (uq (λa b=>(a,b)) (qx zn5)) dka)
def dkn:Rd Nat:=qx zn5
def dkp:Rd Pa:=qx dkpa
def aF {α:Type} (a:Rd α) (r:List α):Rd (List α):=dzrb (qx zze) λk=>Nat.rec (yg r) (λ_ ih=>zh (uq List.cons a) ih) k
def dkwo:Rd WO:=dzrj (.b (.l (zh (yg WO.alloc) (qx zac))) (.l (zh (zh (zh (zh (yg WO.dm) dkn) dkn) (qx zac)) (aF dklp []))))
def dkro:Rd RO:=dzrj (.b (.b (.l (zh (uq RO.q dkp) (zh (yg PO.mv) dka))) (.l (uq RO.s (zh (yg PO.mv) dka)))) (.b (.b (.b (.b (.l (uq RO.s (zh (zh (zh (yg PO.su) dkn) dka) dka))) (.b (.b (.l (uq RO.s (zh (zh (yg PO.build) (qx zac)) (aF dklp [])))) (.b (.b (.b (.l (uq RO.s (zh (yg PO.neg) dka))) (.b (.l (uq RO.s (zh (yg PO.b2s) dka))) (.l (uq RO.s (zh (yg PO.capz) dka))))) (.l (zh (zh (uq RO.p (qx ru)) rz) (zh (zh (yg PO.zn) dkn) dka)))) (.b (.l (uq RO.s (zh (yg PO.not) dka))) (.b (.b (.b (.l (uq RO.s (zh (zh (zh (zh (zh (yg PO.look) (qx dkkk)) (qx dkav)) (qx dkbo)) dka) dka))) (.l (uq RO.s (zh (zh (zh (yg PO.part) dkn) (qx dkon)) dka)))) (.b (.l (zh (zh (uq RO.w (qx ru)) rz) (zh (zh (zh (zh (zh (yg WO.appm) dkn) dkn) (qx zac)) dka) dka))) (.l (zh (zh (uq RO.w (qx ru)) rz) (zh (zh (zh (zh (yg WO.appq) dkn) dkn) dka) dka))))) (.l (zh (zh (uq RO.p (qx ru)) rz) (zh (zh (zh (yg PO.pick) dka) dka) dka))))))) (.l (uq RO.s (zh (yg PO.len) dka))))) (.b (.l (zh (zh (uq RO.w (qx ru)) rz) (zh (zh (zh (yg WO.store) dkn) dka) dka))) (.b (.l (zh (zh (uq RO.p (qx ru)) rz) (zh (zh (qx zn6) dka) dka))) (.b (.b (.l (uq RO.s (zh (zh (yg PO.sidx) dka) dka))) (.l (uq RO.s (zh (yg PO.slen) dka)))) (.l (zh (uq RO.q dkp) (zh (zh (zh (yg PO.pick) dka) dka) dka))))))) (.b (.b (.b (.l (zh (zh (uq RO.w (qx ru)) rz) (zh (yg WO.alloc) (qx zac)))) (.b (.l (uq RO.s (zh (zh (zh (yg PO.pick) dka) dka) dka))) (.b (.b (.b (.l (zh (zh (uq RO.p (qx ru)) rz) (zh (zh (zh (yg PO.aX) dka) (qx dkoa)) (qx dkoa)))) (.b (.b (.l (zh (zh (uq RO.w (qx ru)) rz) (zh (zh (zh (zh (yg WO.zl9) (qx dkkk)) dka) dka) dka))) (.l (zh (zh (uq RO.w (qx ru)) rz) (yg WO.aZ)))) (.l (zh (zh (uq RO.p (qx ru)) rz) (zh (zh (zh (zh (yg PO.zd9) dkn) dkn) dka) dka))))) (.l (zh (zh (uq RO.p (qx ru)) rz) (zh (yg PO.len) dka)))) (.b (.l (zh (uq RO.q dkp) (zh (yg PO.load) dka))) (.l (uq RO.s (zh (zh (zh (yg PO.fn) dkn) dkp) (aF dka [])))))))) (.l (uq RO.s (zh (zh (yg PO.aW) dkn) dka)))) (.b (.l (uq RO.s (zh (zh (yg PO.zn) dkn) dka))) (.b (.l (zh (zh (uq RO.p (qx ru)) rz) (zh (yg PO.mv) dka))) (.l (uq RO.s (zh (zh (yg PO.ext) dkn) dka))))))) (.b (.b (.b (.l (zh (uq RO.q dkp) (zh (zh (qx zn6) dka) dka))) (.b (.l (zh (zh (uq RO.w (qx ru)) rz) (zh (yg WO.box) dka))) (.b (.l (zh (uq RO.q dkp) (zh (yg PO.len) dka))) (.l (zh (zh (uq RO.p (qx ru)) rz) (zh (yg PO.load) dka)))))) (.l (zh (zh (uq RO.w (qx ru)) rz) (zh (zh (yg WO.call) dkck) (aF dka []))))) (.b (.l (uq RO.s (zh (zh (qx zn6) dka) dka))) (.b (.b (.b (.b (.b (.b (.l (zh (zh (uq RO.p (qx ru)) rz) (zh (zh (yg PO.sidx) dka) dka))) (.l (zh (zh (uq RO.p (qx ru)) rz) (zh (yg PO.slen) dka)))) (.b (.l (zh (uq RO.q dkp) (zh (yg PO.not) dka))) (.l (zh (zh (uq RO.w (qx ru)) rz) (zh (zh (zh (zh (zh (yg WO.rX) dkn) dkn) (qx zac)) dka) dka))))) (.b (.l (zh (zh (uq RO.p (qx ru)) rz) (zh (yg PO.not) dka))) (.b (.b (.l (zh (zh (uq RO.p (qx ru)) rz) (zh (zh (zh (yg PO.fn) dkn) dkp) (aF dka [])))) (.l (zh (uq RO.q dkp) (zh (zh (zh (yg PO.part) dkn) (qx dkon)) dka)))) (.l (uq RO.s (zh (zh (zh (zh (yg PO.zd9) dkn) dkn) dka) dka)))))) (.b (.l (zh (zh (uq RO.w (qx ru)) rz) (zh (zh (zh (zh (yg WO.app) dkn) dkn) dka) dka))) (.b (.l (uq RO.s (zh (zh (zh (yg PO.aX) dka) (qx dkoa)) (qx dkoa)))) (.l (zh (zh (uq RO.p (qx ru)) rz) (zh (zh (zh (yg PO.su) dkn) dka) dka)))))) (.b (.l (zh (zh (uq RO.w (qx ru)) rz) (zh (zh (zh (zh (yg WO.dm) dkn) dkn) (qx zac)) (aF dklp [])))) (.b (.b (.b (.b (.l (uq RO.s (zh (zh (zh (zh (zh (zh (yg PO.aslice) dkn) dkn) dka) (qx dkoa)) (qx dkoa)) (qx dkoa)))) (.l (uq RO.s (zh (zh (zh (yg PO.aY) (qx dkbo)) dka) (aF dka []))))) (.l (uq RO.s (zh (zh (zh (zh (zh (yg PO.slice) dkn) dka) (qx dkoa)) (qx dkoa)) (qx dkoa))))) (.l (uq RO.s (zh (zh (yg PO.conv) (qx dkik)) dka)))) (.l (zh (zh (uq RO.p (qx ru)) rz) (zh (zh (yg PO.aW) dkn) dka)))))) (.l (uq RO.s (zh (yg PO.load) dka))))))))
def dkl:Rd (List RO):=aF dkro []
def dI (R:List IR) (n:Nat):IR:=(Nat.rec (motive:=λ_=>Rd IR) (yg .skip) (λ_ q=>dzrj (.b (.b (.b (.l (yg IR.skip)) (.l (zh (zh (zh (yg IR.cond) dka) q) q))) (.b (.b (.l (zh (uq IR.nZ (aF dkwo [])) (aF (zh (uq (λa b=>(a,b)) dkro) (zh (uq (λa b=>(a,b)) dkn) (aF dkwo []))) []))) (.l (uq IR.reg dkl))) (.l (yg IR.ret)))) (.b (.b (.b (.l (zh (zh (yg IR.block) dkn) q)) (.b (.l (zh (yg IR.exit) dkn)) (.b (.b (.b (.l (zh (yg IR.bad) dkn)) (.l (zh (zh (zh (zh (yg IR.rf) dka) (aF dkp [])) q) q))) (.l (uq (λk=>dzlg R k) (qx zzf)))) (.l (zh (yg IR.loop) q))))) (.l (zh (uq IR.seq q) q))) (.l (zh (uq (λl=>IR.seq (.reg l)) dkl) q))))) 200 n).1
def dA (r:List RO) (n:Nat):List RO:=(aF dkro r n).1
end
end Go.Ev
namespace Go.Ev
open Go Go.Proofs
set_option maxRecDepth 100000
noncomputable section
abbrev aT0:Arg:=.t (.of 0)
abbrev aT1:Arg:=.t (.of 1)
abbrev aT2:Arg:=.t (.of 2)
abbrev aT3:Arg:=.t (.of 3)
abbrev aT4:Arg:=.t (.of 4)
abbrev aT5:Arg:=.t (.of 5)
abbrev aT6:Arg:=.t (.of 6)
abbrev aT7:Arg:=.t (.of 7)
abbrev aT8:Arg:=.t (.of 8)
abbrev aT9:Arg:=.t (.of 9)
abbrev aT10:Arg:=.t (.of 10)
abbrev aT11:Arg:=.t (.of 11)
abbrev aT12:Arg:=.t (.of 12)
abbrev aT13:Arg:=.t (.of 13)
abbrev aT14:Arg:=.t (.of 14)
abbrev aT15:Arg:=.t (.of 15)
abbrev aT16:Arg:=.t (.of 16)
abbrev aT17:Arg:=.t (.of 17)
abbrev aT18:Arg:=.t (.of 18)
abbrev aT19:Arg:=.t (.of 19)
abbrev aT20:Arg:=.t (.of 20)
abbrev aT21:Arg:=.t (.of 21)
abbrev aT22:Arg:=.t (.of 22)
abbrev aT23:Arg:=.t (.of 23)
abbrev aT24:Arg:=.t (.of 24)
abbrev aT25:Arg:=.t (.of 25)
abbrev aT26:Arg:=.t (.of 26)
abbrev aT27:Arg:=.t (.of 27)
abbrev aT28:Arg:=.t (.of 28)
abbrev aT30:Arg:=.t (.of 30)
abbrev aT31:Arg:=.t (.of 31)
abbrev aT34:Arg:=.t (.of 34)
abbrev aT35:Arg:=.t (.of 35)
abbrev aT36:Arg:=.t (.of 36)
abbrev aS0:Arg:=.s 0
abbrev aS1:Arg:=.s 1
abbrev aS2:Arg:=.s 2
abbrev aS3:Arg:=.s 3
abbrev aS4:Arg:=.s 4
abbrev aS5:Arg:=.s 5
abbrev aS8:Arg:=.s 8
abbrev aS11:Arg:=.s 11
abbrev aC0:Arg:=.c (I 0)
abbrev aC1:Arg:=.c (I 1)
abbrev aC4:Arg:=.c (I 4)
abbrev aC32:Arg:=.c (I 32)
abbrev F8.fr:=fr37
def F8.t0:IR:=.reg (dA [] 222362190)
def F8.t1:IR:=.reg (dA [] 2842968998376812297580)
def F8.t2:IR:=.reg (dA [] 795630)
def F8.t6:IR:=.reg (dA [] 10452096576316540646832)
def F8.t7:IR:=.reg (dA [] 87024531226285157840304)
def F8.zdz (r:List RO):List RO:=dA r 103316235408996229644447341759023940267177
def F8.r5_1:List RO:=F8.zdz []
def F8.zdy (r:List RO):List RO:=dA r 76520877357582128471776926560193
def F8.r5_0:List RO:=F8.zdy F8.r5_1
def F8.t8:IR:=.reg F8.r5_0
def F8.t13:IR:=.reg [iQo 7 (.mv aC0)]
def F8.t14:IR:=.reg (dA [] 6557885830402276)
def F8.t15:IR:=.reg (dA [] 169931116317)
def F8.t17:IR:=.reg (dA [] 1588880664332)
def F8.t18:IR:=.reg (dA [] 417365815601739772943539265565943970911544704)
def F8.zlt (r:List RO):List RO:=dA r 1866030117808702
def F8.zn7:List RO:=F8.zlt []
def F8.zls (r:List RO):List RO:=dA r 340750045
def F8.zn8:List RO:=F8.zls F8.zn7
def F8.zlr (r:List RO):List RO:=dA r 70208975745290895488661176753028769
def F8.zlq:List RO:=F8.zlr F8.zn8
def F8.t23:IR:=.reg F8.zlq
def F8.t24:IR:=.reg [iQo 7 (.mv aC1)]
def F8.t30:IR:=.reg (dA [] 2791183710)
def F8.t33:IR:=.seq F8.t15 (.seq (.cond aT19 .skip (.exit 0)) (.seq (.block 1 (.seq F8.t17 (.seq (.seq F8.t18 (.cond aT20 (.seq (.reg (dA [] 6789)) .ret) .skip)) (.seq F8.t23 (.cond aT21 F8.t24 .skip))))) F8.t30))
def F8.t34:IR:=.loop F8.t33
def F8.zlw (r:List RO):List RO:=dA r 17504933152792415581417
def F8.ztf:List RO:=F8.zlw []
def F8.zlv (r:List RO):List RO:=dA r 1816746871604688654529
def F8.zlu:List RO:=F8.zlv F8.ztf
def F8.t37:IR:=.reg F8.zlu
def F8.t42:IR:=.reg (dA [] 210479393827060196)
def F8.t43:IR:=.reg (dA [] 10667126557)
def F8.t45:IR:=.reg (dA [] 30513634602357429344792)
def F8.zl3 (r:List RO):List RO:=dA r 21110347483502950
def F8.ztg:List RO:=F8.zl3 []
def F8.zl0 (r:List RO):List RO:=dA r 55243783595795325875045555254584116485744
def F8.zth:List RO:=F8.zl0 F8.ztg
def F8.zlz (r:List RO):List RO:=dA r 73093387697798922008331175685166031880885005473
def F8.zti:List RO:=F8.zlz F8.zth
def F8.zly (r:List RO):List RO:=dA r 8839246182178807730617654884276897
def F8.zlx:List RO:=F8.zly F8.zti
def F8.t46:IR:=.reg F8.zlx
def F8.t51:IR:=.reg (dA [] 52468246998700)
def F8.t52:IR:=.reg (dA [] 1395052685085)
def F8.t54:IR:=.reg (dA [] 2035610)
def F8.t55:IR:=.reg (dA [] 1695717)
def F8.t56:IR:=.reg (dA [] 114376004641638861688381272)
def F8.t57:IR:=.reg (dA [] 35482199068189)
def F8.t59:IR:=.reg (dA [] 228768426946729016131033)
def F8.t60:IR:=.reg (dA [] 1046242114973615101812113072)
def F8.t61:IR:=.reg (dA [] 35525308670648296)
def F8.t66:IR:=.reg (dA [] 56798935902)
def F8.t69:IR:=.seq F8.t57 (.seq (.cond aT34 .skip (.exit 6)) (.seq (.block 7 (.seq F8.t59 (.seq F8.t60 (.cond aT35 F8.t61 .skip)))) F8.t66))
def F8.t70:IR:=.loop F8.t69
def F8.zl8 (r:List RO):List RO:=dA r 10187881421
def F8.zn9:List RO:=F8.zl8 []
def F8.zl7 (r:List RO):List RO:=dA r 2480951805342449892943369422605094798684025295277281
def F8.zoa:List RO:=F8.zl7 F8.zn9
def F8.zl6 (r:List RO):List RO:=dA r 7259806106
def F8.zob:List RO:=F8.zl6 F8.zoa
def F8.zl5 (r:List RO):List RO:=dA r 2403056376650710403500982209
def F8.zl4:List RO:=F8.zl5 F8.zob
def F8.t73:IR:=.reg F8.zl4
def F8.t82:IR:=.reg (dA [] 15984294238)
def F8.t85:IR:=.seq F8.t52 (.seq (.cond aT30 .skip (.exit 4)) (.seq (.block 5 (.seq F8.t54 (.seq F8.t55 (.seq (.seq F8.t56 (.block 6 F8.t70)) (.seq F8.t73 (.cond aT36 (.seq (.reg (dA [] 6789)) .ret) .skip)))))) F8.t82))
def F8.t86:IR:=.loop F8.t85
def F8.t92:IR:=.reg (dA [] 11756599646)
def F8.t95:IR:=.seq F8.t43 (.seq (.cond aT26 .skip (.exit 2)) (.seq (.block 3 (.seq F8.t45 (.seq (.seq F8.t46 (.cond aT27 (.seq (.reg (dA [] 6789)) .ret) .skip)) (.seq F8.t51 (.block 4 F8.t86))))) F8.t92))
def F8.t96:IR:=.loop F8.t95
def F8.t99:IR:=.reg (dA [] 795630)
def F8.t109:IR:=.seq F8.t0 (.seq (.seq F8.t1 (.cond aT14 (.seq F8.t2 .ret) .skip)) (.seq F8.t6 (.seq F8.t7 (.seq (.seq F8.t8 (.cond aT15 (.seq (.reg (dA [] 6789)) .ret) .skip)) (.seq F8.t13 (.seq (.seq F8.t14 (.block 0 F8.t34)) (.seq (.seq F8.t37 (.cond aT22 (.seq (.reg (dA [] 6789)) .ret) .skip)) (.seq (.seq F8.t42 (.block 2 F8.t96)) (.seq F8.t99 .ret)))))))))
def F8.b0:IR:=F8.t109
def F8.res:List RV:=[.t (.of 2)]
def F8:Fn:={ params:=[(.of 0)],res:=F8.res,body:=F8.b0,init:=in37 }
theorem F8.ok:fnA Tryz.prog Tryz.f8 [0,1,2,3,4,5,6,7,9,11,12,13,14,15,18,43,44,45,46,47,59,70,85,86,87,88,89,116,118,119,120,123,124,125,126,136,159]=some F8:=by kernel_rfl
abbrev F16.fr:=fr9
def F16.b4:IR:=dI [] 617529785283601404539640255466004091134849312788649210369191396527897405
def F16.b3:IR:=(.loop F16.b4)
def F16.g2 (X3:IR):IR:=(.block 0 X3)
def F16.b2:IR:=F16.g2 F16.b3
def F16.b9:IR:=dI [] 824599
def F16.b0:IR:=dI [F16.b2,F16.b9] 256689190681998713969968074020349743615946766651
def F16.res:List RV:=[.t (.of 4)]
def F16:Fn:={ params:=[(.of 0),(.of 1),(.of 2)],res:=F16.res,body:=F16.b0,init:=in9 }
theorem F16.ok:fnA Tryz.prog Tryz.f16 [0,1,2,3,6,7,12,17,27]=some F16:=by kernel_rfl
abbrev F17.fr:=fr29
def F17.b0:IR:=dI [] 111541126318880796892809571987282905169779598536243566239321181364861607504435989467576550067186173163735834547230267629595673655886351217258856153161063244588435398694020716843673209569772749349830342970553270392538515564113531604756370214574012857267711327074031946347738957868047354203631861671089304199308141033579577902074358109124127857012876272712826806547378180797497621448728236467095213167661331115182106814683567194951483492503412453859577500882341907672049705715344222607441012837435435239967954478257381097269216759679475868536331469676154697760016114713948322533955246097889795068498172300559379090520770765246451373510945552425420783060485553283750334291307402600315467585804028215190678992411973333707988264180505850588530949849010208524284076811773660029845753861756316638268025426445204353479922592318254929743651156077445579802402441953618879115886000717103672582068058784752783329567181640158146154299307298444089624265070798896406883519750169839167843473410422916155802546635162093979026572857551446444594654600732390070466192445045513644236496699790015509892334815474774968082567851755725517964393336524579445712870459160694005831735456297022852623103367266301647175335951108558510013634790362626112454947238159202655660961490097548800557668744988391909148127599248885761495254110748548625747626160216258967
def F17.res:List RV:=[.t (.of 0)]
def F17:Fn:={ params:=[],res:=F17.res,body:=F17.b0,init:=in29 }
theorem F17.ok:fnA Tryz.prog Tryz.f17 [0,1,2,3,4,5,6,7,8,9,10,11,12,13,14,15,16,17,18,19,20,21,22,23,24,25,26,127,165]=some F17:=by kernel_rfl
abbrev F18.fr:=fr11
def F18.b4:IR:=dI [] 80014317205108713860420916819903832284863392598068720041780332979550327
def F18.b3:IR:=(.loop F18.b4)
def F18.g2 (X3:IR):IR:=(.block 0 X3)
def F18.b2:IR:=F18.g2 F18.b3
def F18.b9:IR:=dI [] 103959
def F18.b0:IR:=dI [F18.b2,F18.b9] 2091540494817979403983534681302608821739923776318867965203518047990460759127667137510994581079706289263224736363963428837180329774954047803
def F18.res:List RV:=[.t (.of 2)]
def F18:Fn:={ params:=[(.of 0)],res:=F18.res,body:=F18.b0,init:=in11 }
theorem F18.ok:fnA Tryz.prog Tryz.f18 [0,1,2,3,4,5,18,22,23,24,30]=some F18:=by kernel_rfl
abbrev F19.fr:=fr14
def F19.b16:IR:=dI [] 945763491211132663475108750072907881270873473326727649413264409984635312953689672800154710164725307078474501417845141
def F19.b17:IR:=dI [] 12009054026
def F19.b12:IR:=dI [F19.b16,F19.b17] 121742969622779267268279690769602027705588120971050527668853672012846128039911227838417751217899847611592142201509916082467274013
def F19.b11:IR:=(.loop F19.b12)
def F19.g10 (X11:IR):IR:=(.block 2 X11)
def F19.b10:IR:=F19.g10 F19.b11
def F19.b18:IR:=dI [] 8716628817732595091832203550671108775
def F19.b19:IR:=dI [] 2783298378
def F19.b5:IR:=dI [F19.b10,F19.b18,F19.b19] 805361836490483546754905367604293042299893052282125330410143579827171895565491005
def F19.b4:IR:=(.loop F19.b5)
def F19.g3 (X4:IR):IR:=(.block 0 X4)
def F19.b3:IR:=F19.g3 F19.b4
def F19.b20:IR:=dI [] 103959
def F19.b0:IR:=dI [F19.b3,F19.b20] 50352003392354910790519593448756099391503405151747631926767941411490233691965912754059548514111122041147
def F19.res:List RV:=[.t (.of 2)]
def F19:Fn:={ params:=[(.of 0)],res:=F19.res,body:=F19.b0,init:=in14 }
theorem F19.ok:fnA Tryz.prog Tryz.f19 [0,1,2,3,4,5,13,17,22,32,36,52,66,72]=some F19:=by kernel_rfl
abbrev F20.fr:=fr14
def F20.b0:IR:=dI [] 1211705669146781627574736942312439320534514287146332067573611806298294799381944592527235019114774315095148064976861489761078661909503458287094039041934325236648658322599151353037382497132908524277477155844441587616858325468226511554558986809140586219668386008648230326790646295538584340742088050297828264308331862835770873722012652215982934663582606756143903573218221586972024284445758178717499320468178947673118800229851813034861621125368035254753226058401417029338004968754564504923874257211
def F20.res:List RV:=[.t (.of 2)]
def F20:Fn:={ params:=[(.of 0)],res:=F20.res,body:=F20.b0,init:=in14 }
theorem F20.ok:fnA Tryz.prog Tryz.f20 [0,1,2,3,4,5,6,7,20,23,24,25,26,71]=some F20:=by kernel_rfl
abbrev F23.fr:=fr6
def F23.t0:IR:=.reg (dA [] 400145118364)
def F23.t1:IR:=.reg (dA [] 571389754732)
def F23.t2:IR:=.reg (dA [] 190680570)
def F23.t8:IR:=.reg (dA [] 52774615140407499505828876973473)
def F23.t11:IR:=.seq F23.t0 (.seq (.seq F23.t1 (.seq F23.t2 (.cond aT5 (.seq (.reg (dA [] 86672372)) .ret) .skip))) (.seq F23.t8 .ret))
def F23.b0:IR:=F23.t11
def F23.res:List RV:=[.t (.of 2),.t (.of 3)]
def F23:Fn:={ params:=[(.of 0)],res:=F23.res,body:=F23.b0,init:=in6 }
theorem F23.ok:fnA Tryz.prog Tryz.f23 [0,1,2,3,4,8]=some F23:=by kernel_rfl
abbrev F24.fr:=fr14
def F24.b0:IR:=dI [] 9404555872068186880075896275309638542038586752871961629429792775479223946991136459936677644496351168058366920643551683799128284054641845929899095997488581851507447224263151944260689494542903025716396493332583190096384199471731
def F24.res:List RV:=[.t (.of 3),.t (.of 4)]
def F24:Fn:={ params:=[(.of 0),(.of 1)],res:=F24.res,body:=F24.b0,init:=in14 }
theorem F24.ok:fnA Tryz.prog Tryz.f24 [0,1,2,4,5,6,7,9,14,19,22,23,24,25]=some F24:=by kernel_rfl
abbrev F29.fr:=fr7
def F29.b0:IR:=dI [] 133045042274553215184169701877360316871186015640526105973565595995885378523202763733137573720169063748800982814053471216396823
def F29.res:List RV:=[.t (.of 2)]
def F29:Fn:={ params:=[(.of 0),(.of 1)],res:=F29.res,body:=F29.b0,init:=in7 }
theorem F29.ok:fnA Tryz.prog Tryz.f29 [0,1,4,5,10,14,25]=some F29:=by kernel_rfl
abbrev F31.fr:=fr28
def F31.t0:IR:=.reg (dA [] 400145118364)
def F31.t1:IR:=.reg (dA [] 571389754732)
def F31.t2:IR:=.reg (dA [] 1524862458)
def F31.t8:IR:=.reg [iQo 5 (.mv (.c .zb))]
def F31.t9:IR:=.reg [iQo 6 (.mv (.c .zb))]
def F31.t10:IR:=.reg (dA [] 1705753293973902180184)
def F31.t11:IR:=.reg (dA [] 169382717213)
def F31.t13:IR:=.reg (dA [] 106190652682474291161)
def F31.t14:IR:=dI [] 1168053643417701192015227901720934083647393794707506
def F31.t15:IR:=.reg (dA [] 402935755226868196)
def F31.t16:IR:=.reg (dA [] 202410798877)
def F31.t18:IR:=.reg (dA [] 2473926932662054980872434200)
def F31.t19:IR:=.reg (dA [] 261324267228765420481204279760)
def F31.t20:IR:=.reg (dA [] 259170691246938095573465)
def F31.t21:IR:=dI [] 18587609342430503669062308138598960149106
def F31.t26:IR:=.reg (dA [] 3166442334)
def F31.t29:IR:=.seq F31.t16 (.seq (.cond aT25 .skip (.exit 2)) (.seq (.block 3 (.seq F31.t18 (.seq F31.t19 (.seq F31.t20 F31.t21)))) F31.t26))
def F31.t30:IR:=.loop F31.t29
def F31.t33:IR:=.reg (dA [] 213071774070388)
def F31.t34:IR:=.reg (dA [] 6155025818)
def F31.t35:IR:=.reg (dA [] 1150779456136169554390776449297084976491947680)
def F31.t36:IR:=.reg (dA [] 24423199642)
def F31.t41:IR:=.reg (dA [] 12710086651184201655123855176372314983466417)
def F31.t47:IR:=.reg (dA [] 7813735706236793652)
def F31.t48:IR:=.reg (dA [] 3943538251470500073671897)
def F31.t49:IR:=.reg (dA [] 117318562064737987332075725363664)
def F31.t50:IR:=.reg (dA [] 3815300367832692)
def F31.t51:IR:=.reg (dA [] 3815300367831860)
def F31.t52:IR:=.reg (dA [] 7856141134480840526373656430652143724756846529)
def F31.t64:IR:=.reg (dA [] 9609019230)
def F31.t67:IR:=.seq F31.t11 (.seq (.cond aT21 .skip (.exit 0)) (.seq (.block 1 (.seq F31.t13 (.seq F31.t14 (.seq (.seq F31.t15 (.block 2 F31.t30)) (.seq F31.t33 (.seq (.seq F31.t34 (.cond aT26 (.seq F31.t35 (.seq (.seq F31.t36 (.cond aT27 (.seq (.reg (dA [] 693380916)) .ret) .skip)) (.seq F31.t41 (.exit 1)))) .skip)) (.seq F31.t47 (.seq F31.t48 (.seq F31.t49 (.seq F31.t50 (.seq F31.t51 F31.t52))))))))))) F31.t64))
def F31.t68:IR:=.loop F31.t67
def F31.t71:IR:=.reg (dA [] 24379572)
def F31.t77:IR:=.seq F31.t0 (.seq (.seq F31.t1 (.seq F31.t2 (.cond aT17 (.seq (.reg (dA [] 86672372)) .ret) .skip))) (.seq F31.t8 (.seq F31.t9 (.seq (.seq F31.t10 (.block 0 F31.t68)) (.seq F31.t71 .ret)))))
def F31.b0:IR:=F31.t77
def F31.res:List RV:=[.t (.of 2),.t (.of 3)]
def F31:Fn:={ params:=[(.of 0)],res:=F31.res,body:=F31.b0,init:=in28 }
theorem F31.ok:fnA Tryz.prog Tryz.f31 [0,1,2,3,4,5,6,7,8,9,10,12,13,14,15,16,17,21,24,25,26,27,39,40,41,42,65,76]=some F31:=by kernel_rfl
abbrev F33.fr:=fr32
def F33.b0:IR:=dI [] 1404140278381391256578748969666981710339241990760588771718361393989159270779090756962693037558790924798576714848982539734742724320268454729976561236225479008306119515180170501212289147762548938482514030758966742660398115998357894445695485928431867717881432220709332548697309145383152484310383436101977868454179299951034430153402648486378145571737868499910081879401832094192089378373914054521236250584024361408651752003515934646119821121410265054583329857443129002426821613852085547420421812094250108505324737188110885390376420895506387743727029953356170246809112833946501574485232608400464468500790102221667377156426456384708143819336638770005699236483685916784203848270565858385089965659691836371633448756363032149537625643168919706296048715082186147156988066341533809168313740462797915709681901598108180499302339583640485014866259565202750649734365017419534963
def F33.res:List RV:=[.t (.of 2),.t (.of 3)]
def F33:Fn:={ params:=[(.of 0)],res:=F33.res,body:=F33.b0,init:=in32 }
theorem F33.ok:fnA Tryz.prog Tryz.f33 [0,1,2,3,4,5,6,7,9,10,12,14,15,16,17,21,26,29,30,31,32,38,39,40,41,53,54,55,56,75,97,120]=some F33:=by kernel_rfl
abbrev F35.fr:=fr5
def F35.t0:IR:=.reg (dA [] 893513294)
def F35.zd5 (r:List RO):List RO:=iQm 4 0::r
def F35.r1_3:List RO:=F35.zd5 []
def F35.zd4 (r:List RO):List RO:=dA r 4749812165085796710342151454285207827170519841
def F35.r1_2:List RO:=F35.zd4 F35.r1_3
def F35.fZ (r:List RO):List RO:=dA r 1418330681037908
def F35.rO:List RO:=F35.fZ F35.r1_2
def F35.fV (r:List RO):List RO:=dA r 472319674294213336
def F35.nR:List RO:=F35.fV F35.rO
def F35.t1:IR:=.reg F35.nR
def F35.t3:IR:=.seq F35.t0 (.seq F35.t1 .ret)
def F35.b0:IR:=F35.t3
def F35.res:List RV:=[.t (.of 4)]
def F35:Fn:={ params:=[(.of 0),(.of 1),(.of 2)],res:=F35.res,body:=F35.b0,init:=in5 }
theorem F35.ok:fnA Tryz.prog Tryz.f35 [0,1,2,3,6]=some F35:=by kernel_rfl
abbrev F37.fr:=fr6
def F37.t0:IR:=.reg [iQo 1 (.mv aC0)]
def F37.t1:IR:=.reg [iQo 2 (.mv aC0)]
def F37.t2:IR:=.reg (dA [] 268549026920)
def F37.t5:IR:=.reg (dA [] 2929573345719247817)
def F37.t6:IR:=.reg (dA [] 95340058)
def F37.t13:IR:=.reg (dA [] 6184500)
def F37.t15:IR:=.seq (.seq F37.t2 (.cond aT4 .skip (.exit 0))) (.seq (.block 1 (.seq F37.t5 (.seq F37.t6 (.cond aT5 (.seq (.reg (dA [] 2074)) .ret) .skip)))) F37.t13)
def F37.t16:IR:=.loop F37.t15
def F37.t19:IR:=.reg [iQo 1 (.mv aC0)]
def F37.t22:IR:=.seq F37.t0 (.seq (.seq F37.t1 (.block 0 F37.t16)) (.seq F37.t19 .ret))
def F37.b0:IR:=F37.t22
def F37.res:List RV:=[.t (.of 1)]
def F37:Fn:={ params:=[(.of 0)],res:=F37.res,body:=F37.b0,init:=in6 }
theorem F37.ok:fnA Tryz.prog Tryz.f37 [0,2,3,4,8,17]=some F37:=by kernel_rfl
abbrev F39.fr:=fr2
def F39.t0:IR:=.reg (dA [] 27173)
def F39.t1:IR:=.reg (dA [] 10324909300)
def F39.t3:IR:=.seq F39.t0 (.seq F39.t1 .ret)
def F39.b0:IR:=F39.t3
def F39.res:List RV:=[.t (.of 1)]
def F39:Fn:={ params:=[(.of 0)],res:=F39.res,body:=F39.b0,init:=in2 }
theorem F39.ok:fnA Tryz.prog Tryz.f39 [0,2]=some F39:=by kernel_rfl
abbrev F40.fr:=fr14
def F40.t0:IR:=.reg [iQo 2 (.mv (.c (.str [])))]
def F40.t1:IR:=.reg (dA [] 27747402498620381638386739121)
def F40.t2:IR:=.reg (dA [] 229850917544777148899132405681)
def F40.t3:IR:=.reg (dA [] 60132264258741224)
def F40.t4:IR:=.reg (dA [] 586199558755179331663843620983826645777)
def F40.t17:IR:=.seq F40.t0 (.seq F40.t1 (.seq F40.t2 (.seq (.seq F40.t3 (.cond aT13 (.seq F40.t4 .ret) .skip)) (.seq (.reg (dA [] 4371318937635883362487388110623908784049)) (.seq (.reg (dA [] 72035159108604150663379036781135982983089)) (.seq (.nZ [] [((.s (.zn 2 aT9)),0,[]),((.s (.zn 2 aT12)),0,[]),((.s (.zn 2 aT11)),1,[]),((.s (.zn 2 aT10)),1,[]),((.s (.zn 2 aT10)),3,[]),((.s (.zn 2 aT12)),3,[]),((iCa 132 [aS5,aS4]),0,[]),((iCa 132 [aS4,aS3]),0,[]),((iCa 131 [aS1,aS0]),0,[]),((iCa 132 [aS4,aS3]),0,[]),((iCa 130 [aS1,aS0]),0,[]),((iQm 2 0),0,[])]) .ret))))))
def F40.b0:IR:=F40.t17
def F40.res:List RV:=[.t (.of 2)]
def F40:Fn:={ params:=[(.of 0),(.of 1)],res:=F40.res,body:=F40.b0,init:=in14 }
theorem F40.ok:fnA Tryz.prog Tryz.f40 [0,1,4,5,6,7,8,9,10,11,12,13,14,30]=some F40:=by kernel_rfl
abbrev F43.fr:=fr7
def F43.b0:IR:=dI [] 735496661848540107192716855838502725252040160268427312100610862202773985276531
def F43.res:List RV:=[.t (.of 3),.t (.of 4)]
def F43:Fn:={ params:=[(.of 0),(.of 1)],res:=F43.res,body:=F43.b0,init:=in7 }
theorem F43.ok:fnA Tryz.prog Tryz.f43 [0,1,2,4,5,6,11]=some F43:=by kernel_rfl
abbrev F44.fr:=fr7
def F44.t0:IR:=.reg (dA [] 17176786510)
def F44.t1:IR:=.reg (dA [] 211781)
def F44.t2:IR:=.reg [iQo 5 (.mv aC0)]
def F44.t3:IR:=.reg (dA [] 5871164367732173875152)
def F44.zd3 (r:List RO):List RO:=iQm 4 0::r
def F44.r4_2:List RO:=F44.zd3 []
def F44.zd2 (r:List RO):List RO:=dA r 336689113383536120
def F44.r4_1:List RO:=F44.zd2 F44.r4_2
def F44.zd1 (r:List RO):List RO:=dA r 64978438375914860171201
def F44.r4_0:List RO:=F44.zd1 F44.r4_1
def F44.t6:IR:=.reg F44.r4_0
def F44.t8:IR:=.reg (dA [] 750565876)
def F44.t10:IR:=.seq (.seq F44.t3 (.cond aT6 .skip (.exit 0))) (.seq (.block 1 F44.t6) F44.t8)
def F44.t11:IR:=.loop F44.t10
def F44.t14:IR:=.reg (dA [] 20986)
def F44.t18:IR:=.seq F44.t0 (.seq F44.t1 (.seq (.seq F44.t2 (.block 0 F44.t11)) (.seq F44.t14 .ret)))
def F44.b0:IR:=F44.t18
def F44.res:List RV:=[.t (.of 3)]
def F44:Fn:={ params:=[(.of 0),(.of 1)],res:=F44.res,body:=F44.b0,init:=in7 }
theorem F44.ok:fnA Tryz.prog Tryz.f44 [0,1,2,4,5,6,13]=some F44:=by kernel_rfl
abbrev F45.fr:=fr9
def F45.t0:IR:=.reg (dA [] 6789)
def F45.t1:IR:=.reg (dA [] 795100997444)
def F45.t2:IR:=.reg (dA [] 31651357)
def F45.t4:IR:=.reg (dA [] 5499092748)
def F45.t5:IR:=.reg (dA [] 29624858676)
def F45.t6:IR:=.reg (dA [] 4741)
def F45.t12:IR:=.reg (dA [] 38520158)
def F45.t15:IR:=.seq F45.t2 (.seq (.cond aT7 .skip (.exit 0)) (.seq (.block 1 (.seq F45.t4 (.seq F45.t5 (.cond aT8 (.seq F45.t6 .ret) .skip)))) F45.t12))
def F45.t16:IR:=.loop F45.t15
def F45.t19:IR:=.reg (dA [] 6789)
def F45.t22:IR:=.seq F45.t0 (.seq (.seq F45.t1 (.block 0 F45.t16)) (.seq F45.t19 .ret))
def F45.b0:IR:=F45.t22
def F45.res:List RV:=[.t (.of 2)]
def F45:Fn:={ params:=[(.of 0),(.of 1)],res:=F45.res,body:=F45.b0,init:=in9 }
theorem F45.ok:fnA Tryz.prog Tryz.f45 [0,1,4,6,7,8,9,10,15]=some F45:=by kernel_rfl
abbrev F47.fr:=fr6
def F47.b0:IR:=dI [] 18066752463049531199349186993564058023529928573152036264871079548643408181367023004624624773162551981361019061240885426415517684978291
def F47.res:List RV:=[.t (.of 2),.t (.of 3)]
def F47:Fn:={ params:=[(.of 0)],res:=F47.res,body:=F47.b0,init:=in6 }
theorem F47.ok:fnA Tryz.prog Tryz.f47 [0,1,2,3,4,14]=some F47:=by kernel_rfl
abbrev F48.fr:=fr7
def F48.b0:IR:=dI [] 359129286083880451934284707363106734251608701108694051068618731373487174259
def F48.res:List RV:=[.t (.of 3),.t (.of 4)]
def F48:Fn:={ params:=[(.of 0),(.of 1)],res:=F48.res,body:=F48.b0,init:=in7 }
theorem F48.ok:fnA Tryz.prog Tryz.f48 [0,1,2,4,5,6,11]=some F48:=by kernel_rfl
abbrev F49.fr:=fr7
def F49.b4:IR:=dI [] 19209619413126021219670789578108811176979734568960904007786583127325226586475805
def F49.b3:IR:=(.loop F49.b4)
def F49.g2 (X3:IR):IR:=(.block 0 X3)
def F49.b2:IR:=F49.g2 F49.b3
def F49.b9:IR:=dI [] 412183
def F49.b0:IR:=dI [F49.b2,F49.b9] 30599734998213022906970066152979240512023
def F49.res:List RV:=[.t (.of 2)]
def F49:Fn:={ params:=[(.of 0),(.of 1)],res:=F49.res,body:=F49.b0,init:=in7 }
theorem F49.ok:fnA Tryz.prog Tryz.f49 [0,1,4,5,10,14,25]=some F49:=by kernel_rfl
abbrev F51.fr:=fr13
def F51.b0:IR:=dI [] 294420744566435474364561240920745714855399993408097347572194979465026009533031151177989986547284881986973659851834432013726023461063634853682282507019397897256479488612050194985592355891757359820155762157872948179023165903475
def F51.res:List RV:=[.t (.of 2),.t (.of 3)]
def F51:Fn:={ params:=[(.of 0)],res:=F51.res,body:=F51.b0,init:=in13 }
theorem F51.ok:fnA Tryz.prog Tryz.f51 [0,1,2,3,4,5,7,11,13,14,15,16,27]=some F51:=by kernel_rfl
abbrev F53.fr:=fr9
def F53.b0:IR:=dI [] 558031302871679333684919527961392452579752677338228498830043647183207372885001678696705703881698001830318939046823960408189246040599
def F53.res:List RV:=[.t (.of 2)]
def F53:Fn:={ params:=[(.of 0),(.of 1)],res:=F53.res,body:=F53.b0,init:=in9 }
theorem F53.ok:fnA Tryz.prog Tryz.f53 [0,1,4,5,10,12,13,14,24]=some F53:=by kernel_rfl
abbrev F65.fr:=fr7
def F65.b0:IR:=dI [] 20830388763835197290031063632567992987290414576361325809439797915897992160088002610070776104827992619535230641282330860143758068955443943608367199082587
def F65.res:List RV:=[.cell (.of 2) (some 2),.t (.of 3)]
def F65:Fn:={ params:=[(.of 0),(.of 1)],res:=F65.res,body:=F65.b0,init:=in7 }
theorem F65.ok:fnA Tryz.prog Tryz.f65 [0,1,4,5,6,7,20]=some F65:=by kernel_rfl
abbrev F69.fr:=fr10
def F69.b0:IR:=dI [] 1419521510878715307008734566685559565515090453837384844634266071249161754024629170095219286973480041249703706121342744984480646002086724069000812664949094038703061934668156806823507710421749587231633585618428236030662790044296192711521731186887026779
def F69.res:List RV:=[.cell (.of 1) (some 2),.t (.of 2)]
def F69:Fn:={ params:=[(.of 0)],res:=F69.res,body:=F69.b0,init:=in10 }
theorem F69.ok:fnA Tryz.prog Tryz.f69 [0,2,3,4,5,6,11,14,15,16]=some F69:=by kernel_rfl
abbrev F78.fr:=fr7
def F78.b0:IR:=dI [] 359129286478801545691374157480299338065372822304595389076003639856617468531
def F78.res:List RV:=[.t (.of 3),.t (.of 4)]
def F78:Fn:={ params:=[(.of 0),(.of 1)],res:=F78.res,body:=F78.b0,init:=in7 }
theorem F78.ok:fnA Tryz.prog Tryz.f78 [0,1,2,4,5,6,11]=some F78:=by kernel_rfl
abbrev F85.fr:=fr1
def F85.b0:IR:=dI [] 21057692196892329883831423756624571026200539255807891792824285591
def F85.res:List RV:=[.t (.of 0)]
def F85:Fn:={ params:=[],res:=F85.res,body:=F85.b0,init:=in1 }
theorem F85.ok:fnA Tryz.prog Tryz.f85 [0]=some F85:=by kernel_rfl
abbrev F86.fr:=fr8
def F86.b3:IR:=dI [] 68560980680416528932566469896117734323342603297807656055
def F86.b2:IR:=(.loop F86.b3)
def F86.g1 (X2:IR):IR:=(.block 0 X2)
def F86.b1:IR:=F86.g1 F86.b2
def F86.b8:IR:=dI [] 415895
def F86.b0:IR:=dI [F86.b1,F86.b8] 53082080103039510599831
def F86.res:List RV:=[.t (.of 1)]
def F86:Fn:={ params:=[(.of 0)],res:=F86.res,body:=F86.b0,init:=in8 }
theorem F86.ok:fnA Tryz.prog Tryz.f86 [0,2,4,5,6,7,8,12]=some F86:=by kernel_rfl
abbrev F87.fr:=fr6
def F87.b0:IR:=dI [] 296725702843136088612064335967603588490677581738611
def F87.res:List RV:=[.t (.of 5)]
def F87:Fn:={ params:=[(.of 0),(.of 1),(.of 2)],res:=F87.res,body:=F87.b0,init:=in6 }
theorem F87.ok:fnA Tryz.prog Tryz.f87 [0,1,2,3,4,6]=some F87:=by kernel_rfl
abbrev F88.fr:=fr4
def F88.b0:IR:=dI [] 479426700801069728880151
def F88.res:List RV:=[.t (.of 2)]
def F88:Fn:={ params:=[(.of 0),(.of 1)],res:=F88.res,body:=F88.b0,init:=in4 }
theorem F88.ok:fnA Tryz.prog Tryz.f88 [0,1,4,5]=some F88:=by kernel_rfl
abbrev F89.fr:=fr14
def F89.b4:IR:=dI [] 10386391030700755794278075059927247992385950555294286090280012681740904180061010180996995133317887347481214273728656457031505601238410559842387409775839408484427041104767834335407469438665834991536786005355891831
def F89.b3:IR:=(.loop F89.b4)
def F89.g2 (X3:IR):IR:=(.block 0 X3)
def F89.b2:IR:=F89.g2 F89.b3
def F89.b9:IR:=dI [] 4510971128278055708669873928146780737756756615
def F89.b0:IR:=dI [F89.b2,F89.b9] 10662453903511281271489571791208625043906513579686843997153895154086555493756819771
def F89.res:List RV:=[.t (.of 3)]
def F89:Fn:={ params:=[(.of 0),(.of 1)],res:=F89.res,body:=F89.b0,init:=in14 }
theorem F89.ok:fnA Tryz.prog Tryz.f89 [0,1,2,4,5,6,7,8,16,17,18,19,20,48]=some F89:=by kernel_rfl
abbrev F90.fr:=fr6
def F90.b3:IR:=dI [] 2132696176667431398066504978777137060394092905700059893819378973
def F90.b2:IR:=(.loop F90.b3)
def F90.g1 (X2:IR):IR:=(.block 0 X2)
def F90.b1:IR:=F90.g1 F90.b2
def F90.b8:IR:=dI [] 223767
def F90.b0:IR:=dI [F90.b1,F90.b8] 395492305332759
def F90.res:List RV:=[.t (.of 2)]
def F90:Fn:={ params:=[(.of 0),(.of 1)],res:=F90.res,body:=F90.b0,init:=in6 }
theorem F90.ok:fnA Tryz.prog Tryz.f90 [0,1,4,5,9,17]=some F90:=by kernel_rfl
abbrev F91.fr:=fr4
def F91.b0:IR:=dI [] 16018033604918644070900596201787
def F91.res:List RV:=[.t (.of 3)]
def F91:Fn:={ params:=[(.of 0),(.of 1)],res:=F91.res,body:=F91.b0,init:=in4 }
theorem F91.ok:fnA Tryz.prog Tryz.f91 [0,1,3,4]=some F91:=by kernel_rfl
abbrev F92.fr:=fr10
def F92.t0:IR:=.reg (dA [] 5788946)
def F92.t1:IR:=.reg [iQo 3 (.mv (.c .zb))]
def F92.t2:IR:=.reg (dA [] 1563891126116)
def F92.t3:IR:=.reg (dA [] 23721757)
def F92.t5:IR:=.reg (dA [] 2280210188)
def F92.t6:IR:=.reg (dA [] 344373495574010)
def F92.t11:IR:=.reg (dA [] 25021890009909669589211930825)
def F92.t15:IR:=.reg (dA [] 25946462)
def F92.t18:IR:=.seq F92.t3 (.seq (.cond aT8 .skip (.exit 0)) (.seq (.block 1 (.seq F92.t5 (.seq (.seq F92.t6 (.cond aT9 (.seq (.reg (dA [] 480793874)) .ret) .skip)) F92.t11))) F92.t15))
def F92.t19:IR:=.loop F92.t18
def F92.t22:IR:=.reg (dA [] 23072820)
def F92.t26:IR:=.seq F92.t0 (.seq F92.t1 (.seq (.seq F92.t2 (.block 0 F92.t19)) (.seq F92.t22 .ret)))
def F92.b0:IR:=F92.t26
def F92.res:List RV:=[.t (.of 1),.t (.of 2)]
def F92:Fn:={ params:=[(.of 0)],res:=F92.res,body:=F92.b0,init:=in10 }
theorem F92.ok:fnA Tryz.prog Tryz.f92 [0,2,3,4,6,7,8,9,10,14]=some F92:=by kernel_rfl
abbrev F93.fr:=fr36
def F93.t0:IR:=.reg (dA [] 47078242894)
def F93.t1:IR:=.reg (dA [] 21491372)
def F93.t2:IR:=.reg [iQo 4 (.mv (.c .zb))]
def F93.t3:IR:=.reg [iQo 5 (.mv (.c .zb))]
def F93.t4:IR:=.reg [iQo 6 (.mv aC1)]
def F93.t5:IR:=.reg (dA [] 251701132756165337)
def F93.t8:IR:=.reg (dA [] 116237296738516328112935105)
def F93.t9:IR:=dI [] 39412195812590565616820811510522177956238986178668948594
def F93.t10:IR:=.reg (dA [] 52055459410803300)
def F93.t11:IR:=.reg (dA [] 169382717213)
def F93.t13:IR:=.reg (dA [] 276969402352177184729)
def F93.t14:IR:=dI [] 2282668185406966801215673839896176523892419616818
def F93.t17:IR:=.reg (dA [] 9609019230)
def F93.t20:IR:=.seq F93.t11 (.seq (.cond aT21 .skip (.exit 2)) (.seq (.block 3 (.seq F93.t13 F93.t14)) F93.t17))
def F93.t21:IR:=.loop F93.t20
def F93.t24:IR:=.reg (dA [] 2092735540)
def F93.zll (r:List RO):List RO:=dA r 240830977850494310
def F93.zoc:List RO:=F93.zll []
def F93.zlk (r:List RO):List RO:=dA r 7270469981513124048863063151157921477414081
def F93.zlj:List RO:=F93.zlk F93.zoc
def F93.t25:IR:=.reg F93.zlj
def F93.t28:IR:=.reg (dA [] 8370942772)
def F93.t30:IR:=.seq (.seq F93.t25 (.cond aT22 .skip (.exit 4))) (.block 5 F93.t28)
def F93.t31:IR:=.loop F93.t30
def F93.t33:IR:=.reg (dA [] 3083803034)
def F93.t36:IR:=.reg (dA [] 47312432592537560454899487952)
def F93.t37:IR:=.reg (dA [] 205969652396582372)
def F93.t38:IR:=.reg (dA [] 955225468701)
def F93.t40:IR:=.reg (dA [] 34702525222668)
def F93.t41:IR:=.reg (dA [] 64741405757354097928470216656)
def F93.t44:IR:=.reg (dA [] 14923135838)
def F93.t47:IR:=.seq F93.t38 (.seq (.cond aT27 .skip (.exit 6)) (.seq (.block 7 (.seq F93.t40 F93.t41)) F93.t44))
def F93.t48:IR:=.loop F93.t47
def F93.t51:IR:=.reg (dA [] 3969011215551050341156183095972363815468244864)
def F93.t61:IR:=.reg (dA [] 616347828)
def F93.t63:IR:=.seq (.seq F93.t5 (.cond aT17 .skip (.exit 0))) (.seq (.block 1 (.seq F93.t8 (.seq F93.t9 (.seq (.seq F93.t10 (.block 2 F93.t21)) (.seq F93.t24 (.seq (.block 4 F93.t31) (.seq (.seq F93.t33 (.cond aT23 (.exit 1) .skip)) (.seq F93.t36 (.seq (.seq F93.t37 (.block 6 F93.t48)) F93.t51))))))))) F93.t61)
def F93.t64:IR:=.loop F93.t63
def F93.t67:IR:=.reg (dA [] 11502637)
def F93.t68:IR:=.reg (dA [] 1601181410)
def F93.t69:IR:=.reg (dA [] 1395052685085)
def F93.t71:IR:=.reg (dA [] 200602)
def F93.t72:IR:=.reg (dA [] 1912527554032116)
def F93.t75:IR:=.reg (dA [] 81953811508)
def F93.t76:IR:=.reg (dA [] 63096612023528001192222169)
def F93.t77:IR:=.reg (dA [] 407848253146608693700)
def F93.t78:IR:=.reg (dA [] 3278712450589)
def F93.t80:IR:=.reg (dA [] 1062303005083615640259033)
def F93.t81:IR:=.reg (dA [] 19069697374190949911149548809061397209609122969361)
def F93.t84:IR:=.reg (dA [] 1903891294)
def F93.t87:IR:=.seq F93.t78 (.seq (.cond aT35 .skip (.exit 10)) (.seq (.block 11 (.seq F93.t80 F93.t81)) F93.t84))
def F93.t88:IR:=.loop F93.t87
def F93.t91:IR:=dI [] 31375723677969817480876230757046384072511610487292469312137899147445638141496496139600778951067099017705522
def F93.t98:IR:=.reg (dA [] 15984294238)
def F93.t101:IR:=.seq F93.t69 (.seq (.cond aT30 .skip (.exit 8)) (.seq (.block 9 (.seq F93.t71 (.seq (.seq F93.t72 (.cond aT31 (.exit 9) .skip)) (.seq F93.t75 (.seq F93.t76 (.seq (.seq F93.t77 (.block 10 F93.t88)) F93.t91)))))) F93.t98))
def F93.t102:IR:=.loop F93.t101
def F93.t105:IR:=.reg (dA [] 9498480310)
def F93.t113:IR:=.seq F93.t0 (.seq F93.t1 (.seq F93.t2 (.seq F93.t3 (.seq (.seq F93.t4 (.block 0 F93.t64)) (.seq F93.t67 (.seq (.seq F93.t68 (.block 8 F93.t102)) (.seq F93.t105 .ret)))))))
def F93.b0:IR:=F93.t113
def F93.res:List RV:=[.cell (.of 2) (some 2)]
def F93:Fn:={ params:=[(.of 0)],res:=F93.res,body:=F93.b0,init:=in36 }
theorem F93.ok:fnA Tryz.prog Tryz.f93 [0,1,2,3,4,5,6,7,8,9,10,12,13,14,15,16,17,24,43,44,45,46,72,76,84,85,86,87,106,107,108,112,119,120,121,122]=some F93:=by kernel_rfl
abbrev F94.fr:=fr4
def F94.b0:IR:=dI [] 28329388422463891242418697782500516294075198016832956040782482344296149789477610573763486931259
def F94.res:List RV:=[.t (.of 3)]
def F94:Fn:={ params:=[(.of 0),(.of 1)],res:=F94.res,body:=F94.b0,init:=in4 }
theorem F94.ok:fnA Tryz.prog Tryz.f94 [0,1,2,4]=some F94:=by kernel_rfl
abbrev F95.fr:=fr5
def F95.b0:IR:=dI [] 2538614969499136422816515150730431227905346331021318855842107
def F95.res:List RV:=[.t (.of 3)]
def F95:Fn:={ params:=[(.of 0),(.of 1)],res:=F95.res,body:=F95.b0,init:=in5 }
theorem F95.ok:fnA Tryz.prog Tryz.f95 [0,1,2,4,5]=some F95:=by kernel_rfl
abbrev F96.fr:=fr2
def F96.t0:IR:=.reg (dA [] 62509)
def F96.t1:IR:=.reg (dA [] 213023269254031464936)
def F96.t3:IR:=.seq F96.t0 (.seq F96.t1 .ret)
def F96.b0:IR:=F96.t3
def F96.res:List RV:=[.cell (.of 1) (some 4)]
def F96:Fn:={ params:=[(.of 0)],res:=F96.res,body:=F96.b0,init:=in2 }
theorem F96.ok:fnA Tryz.prog Tryz.f96 [0,2]=some F96:=by kernel_rfl
abbrev F97.fr:=fr4
def F97.t0:IR:=.reg (dA [] 8585804366)
def F97.t1:IR:=.reg (dA [] 360088058038)
def F97.t2:IR:=.reg (dA [] 5903354355032)
def F97.t6:IR:=dI [] 36068039073098460150677619186723981893748108356836466
def F97.t9:IR:=.seq F97.t0 (.seq (.seq F97.t1 (.cond aT3 (.seq F97.t2 .ret) .skip)) (.seq F97.t6 .ret))
def F97.b0:IR:=F97.t9
def F97.res:List RV:=[.t (.of 2)]
def F97:Fn:={ params:=[(.of 0)],res:=F97.res,body:=F97.b0,init:=in4 }
theorem F97.ok:fnA Tryz.prog Tryz.f97 [0,1,2,4]=some F97:=by kernel_rfl
abbrev jf.fr:=fr9
def jf.t0:IR:=.reg [iQo 2 (.mv (.c .zb))]
def jf.t1:IR:=.reg (dA [] 21824269556)
def jf.t2:IR:=.reg (dA [] 1563891134308)
def jf.t3:IR:=.reg (dA [] 23721757)
def jf.t5:IR:=.reg (dA [] 2280210188)
def jf.t6:IR:=.reg (dA [] 985884562867625018253529)
def jf.t9:IR:=.reg (dA [] 25946462)
def jf.t12:IR:=.seq jf.t3 (.seq (.cond aT8 .skip (.exit 0)) (.seq (.block 1 (.seq jf.t5 jf.t6)) jf.t9))
def jf.t13:IR:=.loop jf.t12
def jf.t16:IR:=.reg (dA [] 26)
def jf.t20:IR:=.seq jf.t0 (.seq jf.t1 (.seq (.seq jf.t2 (.block 0 jf.t13)) (.seq jf.t16 .ret)))
def jf.b0:IR:=jf.t20
def jf.res:List RV:=[.t (.of 2)]
def jf:Fn:={ params:=[(.of 0),(.of 1)],res:=jf.res,body:=jf.b0,init:=in9 }
theorem jf.ok:fnA Tryz.prog Tryz.f104 [0,1,4,5,7,10,11,12,13]=some jf:=by kernel_rfl
abbrev jg.fr:=fr7
def jg.t0:IR:=.reg [iQo 1 (.mv (.c .zb))]
def jg.t1:IR:=.reg (dA [] 241130290420)
def jg.t2:IR:=.reg (dA [] 1568984628)
def jg.t3:IR:=.reg (dA [] 65534237)
def jg.t5:IR:=.reg (dA [] 20730)
def jg.t6:IR:=.reg (dA [] 246471140713559433439449)
def jg.t9:IR:=.reg (dA [] 46911326)
def jg.t12:IR:=.seq jg.t3 (.seq (.cond aT6 .skip (.exit 0)) (.seq (.block 1 (.seq jg.t5 jg.t6)) jg.t9))
def jg.t13:IR:=.loop jg.t12
def jg.t16:IR:=.reg (dA [] 2330)
def jg.t20:IR:=.seq jg.t0 (.seq jg.t1 (.seq (.seq jg.t2 (.block 0 jg.t13)) (.seq jg.t16 .ret)))
def jg.b0:IR:=jg.t20
def jg.res:List RV:=[.t (.of 1)]
def jg:Fn:={ params:=[(.of 0)],res:=jg.res,body:=jg.b0,init:=in7 }
theorem jg.ok:fnA Tryz.prog Tryz.f105 [0,2,3,4,8,9,10]=some jg:=by kernel_rfl
end
end Go.Ev
