import Derived.Test.YtfgpjkchdelphaaGreatDoorEvC
import Derived.Test.YtfgpjkchdelphaaGreatDoorProg
import Derived.KernelRfl
set_option linter.unusedSimpArgs false
set_option linter.unusedVariables false
namespace Go.Ev
open Go
inductive HT (α:Type) where
  | l (x:α) | b (x y:HT α)
abbrev Rd (α:Type):=Nat->α×Nat
noncomputable section
abbrev zU:List AV:=[(.int .u8 0),(.int .u8 0),(.int .u8 0),(.int .u8 0),(.int .u8 0),(.int .u8 0),(.int .u8 0),(.int .u8 0),(.int .u8 0),(.int .u8 0),(.int .u8 0),(.int .u8 0),(.int .u8 0),(.int .u8 0),(.int .u8 0),(.int .u8 0),(.int .u8 0),(.int .u8 0),(.int .u8 0),(.int .u8 0),(.int .u8 0),(.int .u8 0),(.int .u8 0),(.int .u8 0),(.int .u8 0),(.int .u8 0),(.int .u8 0),(.int .u8 0),(.int .u8 0),(.int .u8 0),(.int .u8 0),(.int .u8 0),(.int .u8 0),(.int .u8 0),(.int .u8 0),(.int .u8 0),(.int .u8 0),(.int .u8 0),(.int .u8 0),(.int .u8 0),(.int .u8 0),(.int .u8 0),(.int .u8 0),(.int .u8 0),(.int .u8 0),(.int .u8 0),(.int .u8 0),(.int .u8 0),(.int .u8 0),(.int .u8 0),(.int .u8 0),(.int .u8 0),(.int .u8 0),(.int .u8 0),(.int .u8 0),(.int .u8 0),(.int .u8 0),(.int .u8 0),(.int .u8 0),(.int .u8 0),(.int .u8 0),(.int .u8 0),(.int .u8 0),(.int .u8 0),(.int .u8 0),(.int .u8 0),(.int .u8 0),(.int .u8 0),(.int .u8 0),(.int .u8 0),(.int .u8 0),(.int .u8 0),(.int .u8 0),(.int .u8 0),(.int .u8 0),(.int .u8 0),(.int .u8 0),(.int .u8 0),(.int .u8 0),(.int .u8 0),(.int .u8 0),(.int .u8 0),(.int .u8 0),(.int .u8 0),(.int .u8 0),(.int .u8 0),(.int .u8 0),(.int .u8 0),(.int .u8 0),(.int .u8 0),(.int .u8 0),(.int .u8 0),(.int .u8 0),(.int .u8 0),(.int .u8 0),(.int .u8 0),(.int .u8 0),(.int .u8 0),(.int .u8 0),(.int .u8 0),(.int .u8 0),(.int .u8 0),(.int .u8 0),(.int .u8 0),(.int .u8 0),(.int .u8 0),(.int .u8 0),(.int .u8 0),(.int .u8 0),(.int .u8 0),(.int .u8 0),(.int .u8 0),(.int .u8 0),(.int .u8 0),(.int .u8 0),(.int .u8 0),(.int .u8 0),(.int .u8 0),(.int .u8 0),(.int .u8 0),(.int .u8 0),(.int .u8 0),(.int .u8 0),(.int .u8 0),(.int .u8 0),(.int .u8 0),(.int .u8 0),(.int .u8 0)]
abbrev iSm (n:Nat):RO:=.s (.mv (.t (.of n)))
abbrev iQm (n m:Nat):RO:=.q (.of n) (.mv (.s m))
abbrev iQo (n:Nat) (o:PO):RO:=.q (.of n) o
abbrev iPf (n:Nat) (o:PO):RO:=.p .push (some (.s n,false)) o
abbrev iPt (n:Nat) (o:PO):RO:=.p .push (some (.s n,true)) o
abbrev iCa (n:Nat) (l:List Arg):RO:=.w .push none (.call (.c (.fn n (.of n) [])) l)
abbrev iWl (n:Nat) (o:WO):RO:=.w (.loc (.of n)) none o
abbrev iSr (l:List RO) (c:IR):IR:=.seq (.reg l) c
def fr1 (x0:AV):T AV:=(.n .e x0 .e)
def fr2 (x0 x1:AV):T AV:=(.n (.n .e x1 .e) x0 .e)
def fr3 (x0 x1 x2:AV):T AV:=(.n (.n .e x1 .e) x0 (.n .e x2 .e))
def fr4 (x0 x1 x2 x3:AV):T AV:=(.n (.n (.n .e x3 .e) x1 .e) x0 (.n .e x2 .e))
def fr5 (x0 x1 x2 x3 x4:AV):T AV:=(.n (.n (.n .e x3 .e) x1 .e) x0 (.n (.n .e x4 .e) x2 .e))
def fr6 (x0 x1 x2 x3 x4 x5:AV):T AV:=(.n (.n (.n .e x3 .e) x1 (.n .e x5 .e)) x0 (.n (.n .e x4 .e) x2 .e))
def fr7 (x0 x1 x2 x3 x4 x5 x6:AV):T AV:=(.n (.n (.n .e x3 .e) x1 (.n .e x5 .e)) x0 (.n (.n .e x4 .e) x2 (.n .e x6 .e)))
def fr8 (x0 x1 x2 x3 x4 x5 x6 x7:AV):T AV:=(.n (.n (.n (.n .e x7 .e) x3 .e) x1 (.n .e x5 .e)) x0 (.n (.n .e x4 .e) x2 (.n .e x6 .e)))
def fr9 (x0 x1 x2 x3 x4 x5 x6 x7 x8:AV):T AV:=(.n (.n (.n (.n .e x7 .e) x3 .e) x1 (.n .e x5 .e)) x0 (.n (.n (.n .e x8 .e) x4 .e) x2 (.n .e x6 .e)))
def fr10 (x0 x1 x2 x3 x4 x5 x6 x7 x8 x9:AV):T AV:=(.n (.n (.n (.n .e x7 .e) x3 .e) x1 (.n (.n .e x9 .e) x5 .e)) x0 (.n (.n (.n .e x8 .e) x4 .e) x2 (.n .e x6 .e)))
def fr11 (x0 x1 x2 x3 x4 x5 x6 x7 x8 x9 x10:AV):T AV:=(.n (.n (.n (.n .e x7 .e) x3 .e) x1 (.n (.n .e x9 .e) x5 .e)) x0 (.n (.n (.n .e x8 .e) x4 .e) x2 (.n (.n .e x10 .e) x6 .e)))
def fr12 (x0 x1 x2 x3 x4 x5 x6 x7 x8 x9 x10 x11:AV):T AV:=(.n (.n (.n (.n .e x7 .e) x3 (.n .e x11 .e)) x1 (.n (.n .e x9 .e) x5 .e)) x0 (.n (.n (.n .e x8 .e) x4 .e) x2 (.n (.n .e x10 .e) x6 .e)))
def fr13 (x0 x1 x2 x3 x4 x5 x6 x7 x8 x9 x10 x11 x12:AV):T AV:=(.n (.n (.n (.n .e x7 .e) x3 (.n .e x11 .e)) x1 (.n (.n .e x9 .e) x5 .e)) x0 (.n (.n (.n .e x8 .e) x4 (.n .e x12 .e)) x2 (.n (.n .e x10 .e) x6 .e)))
def fr14 (x0 x1 x2 x3 x4 x5 x6 x7 x8 x9 x10 x11 x12 x13:AV):T AV:=(.n (.n (.n (.n .e x7 .e) x3 (.n .e x11 .e)) x1 (.n (.n .e x9 .e) x5 (.n .e x13 .e))) x0 (.n (.n (.n .e x8 .e) x4 (.n .e x12 .e)) x2 (.n (.n .e x10 .e) x6 .e)))
def fr15 (x0 x1 x2 x3 x4 x5 x6 x7 x8 x9 x10 x11 x12 x13 x14:AV):T AV:=(.n (.n (.n (.n .e x7 .e) x3 (.n .e x11 .e)) x1 (.n (.n .e x9 .e) x5 (.n .e x13 .e))) x0 (.n (.n (.n .e x8 .e) x4 (.n .e x12 .e)) x2 (.n (.n .e x10 .e) x6 (.n .e x14 .e))))
def fr18 (x0 x1 x2 x3 x4 x5 x6 x7 x8 x9 x10 x11 x12 x13 x14 x15 x16 x17:AV):T AV:=(.n (.n (.n (.n (.n .e x15 .e) x7 .e) x3 (.n .e x11 .e)) x1 (.n (.n (.n .e x17 .e) x9 .e) x5 (.n .e x13 .e))) x0 (.n (.n (.n (.n .e x16 .e) x8 .e) x4 (.n .e x12 .e)) x2 (.n (.n .e x10 .e) x6 (.n .e x14 .e))))
def fr19 (x0 x1 x2 x3 x4 x5 x6 x7 x8 x9 x10 x11 x12 x13 x14 x15 x16 x17 x18:AV):T AV:=(.n (.n (.n (.n (.n .e x15 .e) x7 .e) x3 (.n .e x11 .e)) x1 (.n (.n (.n .e x17 .e) x9 .e) x5 (.n .e x13 .e))) x0 (.n (.n (.n (.n .e x16 .e) x8 .e) x4 (.n .e x12 .e)) x2 (.n (.n (.n .e x18 .e) x10 .e) x6 (.n .e x14 .e))))
def fr23 (x0 x1 x2 x3 x4 x5 x6 x7 x8 x9 x10 x11 x12 x13 x14 x15 x16 x17 x18 x19 x20 x21 x22:AV):T AV:=(.n (.n (.n (.n (.n .e x15 .e) x7 .e) x3 (.n (.n .e x19 .e) x11 .e)) x1 (.n (.n (.n .e x17 .e) x9 .e) x5 (.n (.n .e x21 .e) x13 .e))) x0 (.n (.n (.n (.n .e x16 .e) x8 .e) x4 (.n (.n .e x20 .e) x12 .e)) x2 (.n (.n (.n .e x18 .e) x10 .e) x6 (.n (.n .e x22 .e) x14 .e))))
def fr28 (x0 x1 x2 x3 x4 x5 x6 x7 x8 x9 x10 x11 x12 x13 x14 x15 x16 x17 x18 x19 x20 x21 x22 x23 x24 x25 x26 x27:AV):T AV:=(.n (.n (.n (.n (.n .e x15 .e) x7 (.n .e x23 .e)) x3 (.n (.n .e x19 .e) x11 (.n .e x27 .e))) x1 (.n (.n (.n .e x17 .e) x9 (.n .e x25 .e)) x5 (.n (.n .e x21 .e) x13 .e))) x0 (.n (.n (.n (.n .e x16 .e) x8 (.n .e x24 .e)) x4 (.n (.n .e x20 .e) x12 .e)) x2 (.n (.n (.n .e x18 .e) x10 (.n .e x26 .e)) x6 (.n (.n .e x22 .e) x14 .e))))
def fr29 (x0 x1 x2 x3 x4 x5 x6 x7 x8 x9 x10 x11 x12 x13 x14 x15 x16 x17 x18 x19 x20 x21 x22 x23 x24 x25 x26 x27 x28:AV):T AV:=(.n (.n (.n (.n (.n .e x15 .e) x7 (.n .e x23 .e)) x3 (.n (.n .e x19 .e) x11 (.n .e x27 .e))) x1 (.n (.n (.n .e x17 .e) x9 (.n .e x25 .e)) x5 (.n (.n .e x21 .e) x13 .e))) x0 (.n (.n (.n (.n .e x16 .e) x8 (.n .e x24 .e)) x4 (.n (.n .e x20 .e) x12 (.n .e x28 .e))) x2 (.n (.n (.n .e x18 .e) x10 (.n .e x26 .e)) x6 (.n (.n .e x22 .e) x14 .e))))
def fr32 (x0 x1 x2 x3 x4 x5 x6 x7 x8 x9 x10 x11 x12 x13 x14 x15 x16 x17 x18 x19 x20 x21 x22 x23 x24 x25 x26 x27 x28 x29 x30 x31:AV):T AV:=(.n (.n (.n (.n (.n (.n .e x31 .e) x15 .e) x7 (.n .e x23 .e)) x3 (.n (.n .e x19 .e) x11 (.n .e x27 .e))) x1 (.n (.n (.n .e x17 .e) x9 (.n .e x25 .e)) x5 (.n (.n .e x21 .e) x13 (.n .e x29 .e)))) x0 (.n (.n (.n (.n .e x16 .e) x8 (.n .e x24 .e)) x4 (.n (.n .e x20 .e) x12 (.n .e x28 .e))) x2 (.n (.n (.n .e x18 .e) x10 (.n .e x26 .e)) x6 (.n (.n .e x22 .e) x14 (.n .e x30 .e)))))
def fr36 (x0 x1 x2 x3 x4 x5 x6 x7 x8 x9 x10 x11 x12 x13 x14 x15 x16 x17 x18 x19 x20 x21 x22 x23 x24 x25 x26 x27 x28 x29 x30 x31 x32 x33 x34 x35:AV):T AV:=(.n (.n (.n (.n (.n (.n .e x31 .e) x15 .e) x7 (.n .e x23 .e)) x3 (.n (.n (.n .e x35 .e) x19 .e) x11 (.n .e x27 .e))) x1 (.n (.n (.n (.n .e x33 .e) x17 .e) x9 (.n .e x25 .e)) x5 (.n (.n .e x21 .e) x13 (.n .e x29 .e)))) x0 (.n (.n (.n (.n (.n .e x32 .e) x16 .e) x8 (.n .e x24 .e)) x4 (.n (.n .e x20 .e) x12 (.n .e x28 .e))) x2 (.n (.n (.n (.n .e x34 .e) x18 .e) x10 (.n .e x26 .e)) x6 (.n (.n .e x22 .e) x14 (.n .e x30 .e)))))
abbrev in1:T AV:=fr1 .u
abbrev in2:T AV:=fr2 .u .u
abbrev in3:T AV:=fr3 .u .u .u
abbrev in4:T AV:=fr4 .u .u .u .u
abbrev in5:T AV:=fr5 .u .u .u .u .u
abbrev in6:T AV:=fr6 .u .u .u .u .u .u
abbrev in7:T AV:=fr7 .u .u .u .u .u .u .u
abbrev in8:T AV:=fr8 .u .u .u .u .u .u .u .u
abbrev in9:T AV:=fr9 .u .u .u .u .u .u .u .u .u
abbrev in10:T AV:=fr10 .u .u .u .u .u .u .u .u .u .u
abbrev in11:T AV:=fr11 .u .u .u .u .u .u .u .u .u .u .u
abbrev in12:T AV:=fr12 .u .u .u .u .u .u .u .u .u .u .u .u
abbrev in13:T AV:=fr13 .u .u .u .u .u .u .u .u .u .u .u .u .u
abbrev in14:T AV:=fr14 .u .u .u .u .u .u .u .u .u .u .u .u .u .u
abbrev in15:T AV:=fr15 .u .u .u .u .u .u .u .u .u .u .u .u .u .u .u
abbrev in18:T AV:=fr18 .u .u .u .u .u .u .u .u .u .u .u .u .u .u .u .u .u .u
abbrev in19:T AV:=fr19 .u .u .u .u .u .u .u .u .u .u .u .u .u .u .u .u .u .u .u
abbrev in23:T AV:=fr23 .u .u .u .u .u .u .u .u .u .u .u .u .u .u .u .u .u .u .u .u .u .u .u
abbrev in28:T AV:=fr28 .u .u .u .u .u .u .u .u .u .u .u .u .u .u .u .u .u .u .u .u .u .u .u .u .u .u .u .u
abbrev in29:T AV:=fr29 .u .u .u .u .u .u .u .u .u .u .u .u .u .u .u .u .u .u .u .u .u .u .u .u .u .u .u .u .u
abbrev in32:T AV:=fr32 .u .u .u .u .u .u .u .u .u .u .u .u .u .u .u .u .u .u .u .u .u .u .u .u .u .u .u .u .u .u .u .u
abbrev in36:T AV:=fr36 .u .u .u .u .u .u .u .u .u .u .u .u .u .u .u .u .u .u .u .u .u .u .u .u .u .u .u .u .u .u .u .u .u .u .u .u
def pz (n:Nat):HT Pa:=.l (.of n)
def xh (n:Nat):HT Nat:=.l n
def yt {α:Type} (x:α):Rd α:=λn=>(x,n)
def ow (n:Nat):HT (Rd Arg):=.l (yt (.s n))
def r9 (n:Nat):HT (Rd Arg):=.l (yt (.t (.of n)))
def tO (n:Nat):HT (Rd Arg):=.l (yt (.c (I n)))
def dzrk (b:Nat):Rd Nat:=λn=>(Nat.mod n b,Nat.div n b)
def dzrb {α β:Type} (a:Rd α) (f:α->Rd β):Rd β:=λn=>Prod.rec (λx m=>f x m) (a n)
def zi {α β:Type} (f:Rd (α->β)) (a:Rd α):Rd β:=λn=>Prod.rec (λg m=>Prod.rec (λx k=>(g x,k)) (a m)) (f n)
def qj {α β:Type} (g:α->β) (a:Rd α):Rd β:=λn=>Prod.rec (λx k=>(g x,k)) (a n)
def xk {α:Type} (t:HT α):Rd α:=HT.rec (λx n=>(x,n)) (λ_ _ f g n=>bif Nat.beq (Nat.mod n 2) 0 then f (Nat.div n 2) else g (Nat.div n 2)) t
def dzrj {α:Type} (t:HT (Rd α)):Rd α:=dzrb (xk t) (λf=>f)
def dzlg (l:List IR):Nat->IR:=List.rec (λ_=>.skip) (λx _ ih k=>Nat.rec x (λm _=>ih m) k) l
def qa1:HT (Rd Arg):=(.b (ow 0) (.b (.b (.b (.b (r9 4) (.b (.b (r9 11) (.b (.l (qj (λk=>.c (I (.ofNat k))) (dzrk 16384))) (.b (r9 16) (r9 18)))) (.b (.l (yt (.c (.bool true)))) (.b (ow 8) (tO 2))))) (.b (r9 3) (.b (.b (r9 10) (.b (r9 13) (.b (tO 3) (.b (.l (yt (.c (.int .u32 1)))) (.l (yt (.c (.int .u32 2)))))))) (r9 7)))) (.b (.b (.b (.b (.b (.b (.b (tO 7) (ow 12)) (.l (yt (.c (.str [48,48,48,49,48,50,48,51,48,52,48,53,48,54,48,55,48,56,48,57,49,48,49,49,49,50,49,51,49,52,49,53,49,54,49,55,49,56,49,57,50,48,50,49,50,50,50,51,50,52,50,53,50,54,50,55,50,56,50,57,51,48,51,49,51,50,51,51,51,52,51,53,51,54,51,55,51,56,51,57,52,48,52,49,52,50,52,51,52,52,52,53,52,54,52,55,52,56,52,57,53,48,53,49,53,50,53,51,53,52,53,53,53,54,53,55,53,56,53,57,54,48,54,49,54,50,54,51,54,52,54,53,54,54,54,55,54,56,54,57,55,48,55,49,55,50,55,51,55,52,55,53,55,54,55,55,55,56,55,57,56,48,56,49,56,50,56,51,56,52,56,53,56,54,56,55,56,56,56,57,57,48,57,49,57,50,57,51,57,52,57,53,57,54,57,55,57,56,57,57]))))) (.b (ow 9) (r9 15))) (.b (.b (.b (.l (qj Arg.s (dzrk 64))) (.l (yt (.c (.int .u32 100))))) (.b (.l (yt (.c (I (-1))))) (tO 16))) (.b (.b (tO 4) (.l (qj (λk=>.t (.of k)) (dzrk 512)))) (.b (.b (.l (yt (.c (.int .u32 10000)))) (.l (yt (.c (.int .u64 0))))) (.b (.l (yt (.c (.int .u8 45)))) (r9 34)))))) (.l (yt (.c (.bool false))))) (ow 2)) (.b (.b (.b (.b (.b (.b (.b (.b (.l (yt (.c (.int .u64 16)))) (.l (yt (.c (.int .u64 8))))) (.b (.l (yt (.c (.str [0,1,2,2,3,3,3,3,4,4,4,4,4,4,4,4,5,5,5,5,5,5,5,5,5,5,5,5,5,5,5,5,6,6,6,6,6,6,6,6,6,6,6,6,6,6,6,6,6,6,6,6,6,6,6,6,6,6,6,6,6,6,6,6,7,7,7,7,7,7,7,7,7,7,7,7,7,7,7,7,7,7,7,7,7,7,7,7,7,7,7,7,7,7,7,7,7,7,7,7,7,7,7,7,7,7,7,7,7,7,7,7,7,7,7,7,7,7,7,7,7,7,7,7,7,7,7,7,8,8,8,8,8,8,8,8,8,8,8,8,8,8,8,8,8,8,8,8,8,8,8,8,8,8,8,8,8,8,8,8,8,8,8,8,8,8,8,8,8,8,8,8,8,8,8,8,8,8,8,8,8,8,8,8,8,8,8,8,8,8,8,8,8,8,8,8,8,8,8,8,8,8,8,8,8,8,8,8,8,8,8,8,8,8,8,8,8,8,8,8,8,8,8,8,8,8,8,8,8,8,8,8,8,8,8,8,8,8,8,8,8,8,8,8,8,8,8,8,8,8,8,8,8,8,8,8])))) (.l (yt (.c (.str [110,111,114,109,97,108])))))) (.b (.b (.l (yt (.c (.str [45,49])))) (.l (yt (.c (.str [50,47,51]))))) (.b (.l (yt (.c (.str [97,115,115,111,99,105,97,116,105,118,101])))) (.l (yt (.c (I (-4000000000000000000)))))))) (.b (.b (.b (.l (yt (.c (I (-9223372036))))) (.l (yt (.c (I (-9223372036854775808)))))) (.b (tO 4000000000000000000) (tO 9223372036))) (.b (.b (.l (yt (.c .sw))) (.b (.l (yt (.c (.fn 109 (.of 109) [])))) (.l (yt (.c (.fn 180 (.of 180) [])))))) (.b (.b (.l (yt (.c (.fn 220 (.of 220) [])))) (.l (yt (.c (.fn 221 (.of 221) []))))) (.b (.l (yt (.c (.fn 222 (.of 222) [])))) (.l (yt (.c (.fn 223 (.of 223) []))))))))) (.b (.b (.b (.b (.b (.l (yt (.c (.fn 224 (.of 224) [])))) (.l (yt (.c (.fn 225 (.of 225) []))))) (.b (.l (yt (.c (.fn 226 (.of 226) [])))) (.l (yt (.c (.fn 227 (.of 227) [])))))) (.b (.b (.l (yt (.c (.fp (layL 2))))) (.l (yt (.c (.int .u32 256))))) (.b (.l (yt (.c (.int .u32 48)))) (.l (yt (.c (.int .u32 65536))))))) (.b (.b (.b (.l (yt (.c (.int .u64 1)))) (.l (yt (.c (.int .u64 1000000000000000000))))) (.b (.l (yt (.c (.int .u64 18)))) (.l (yt (.c (.int .u64 256)))))) (.b (.b (.l (yt (.c (.int .u64 4294967296)))) (.l (yt (.c (.int .u64 65536))))) (.b (.l (yt (.c (.int .u64 9223372036854775807)))) (.l (yt (.c (.int .u8 47)))))))) (.b (.b (.b (.b (.l (yt (.c (.str [109,111,115,116,45,112,101,114,102,101,99,116])))) (.l (yt (.c (.str [32]))))) (.b (.l (yt (.c (.str [45,49,47,51])))) (.l (yt (.c (.str [45,50,47,51])))))) (.b (.b (.l (yt (.c (.str [48,49,50,51,52,53,54,55,56,57,97,98,99,100,101,102,103,104,105,106,107,108,109,110,111,112,113,114,115,116,117,118,119,120,121,122])))) (.l (yt (.c (.str [48,49,50,51,52,53,54,55,56,57]))))) (.b (.l (yt (.c (.str [49,47,51])))) (.l (yt (.c (.str [50]))))))) (.b (.b (.b (.l (yt (.c (.str [52,47,51])))) (.l (yt (.c (.str [54]))))) (.b (.l (yt (.c (.str [55])))) (.l (yt (.c (.str [98,105,109,97,103,105,99])))))) (.b (.b (.l (yt (.c (.str [98,111,114,100,101,114,101,100])))) (.l (yt (.c (I (-854775808)))))) (.b (.l (yt (.c (I (-999999999))))) (tO 1048576))))))) (.b (r9 12) (.b (.l (yt (.c (.str [])))) (.b (.l (yt (.c (.str [109,97,103,105,99])))) (tO 15))))) (r9 6)) (.b (.b (.l (yt (.c .za))) (r9 9)) (ow 3))))) (.b (.b (ow 1) (.b (tO 0) (.b (.b (.b (ow 6) (.b (.b (tO 8) (r9 17)) (.b (r9 19) (.l (yt (.c (.str [48]))))))) (r9 8)) (.b (.b (.b (ow 10) (.b (tO 1000000000) (tO 5))) (.b (.b (tO 9) (.b (.l (yt (.c (.str [112,97,110,100,105,97,103,111,110,97,108])))) (.l (yt (.c (.str [45])))))) (.b (.b (tO 12) (tO 6)) (.b (ow 13) (r9 22))))) (ow 4))))) (.b (.b (r9 1) (.b (tO 1) (.b (.b (.b (.b (.b (r9 23) (r9 25)) (.b (r9 27) (.b (.b (tO 78913) (tO 854775807)) (.l (yt (.c (.int .u64 4294967295))))))) (r9 14)) (.b (.b (r9 20) (tO 10)) (ow 7))) (.b (ow 5) (.b (.b (.b (.l (yt (.c (.int .u64 32)))) (.l (yt (.c (.str [115,101,109,105,109,97,103,105,99]))))) (.b (.l (yt (.c (.str [49])))) (ow 11))) (.b (.b (r9 21) (r9 24)) (.b (r9 26) (.b (.l (yt (.c (.str [47])))) (.b (tO 999999999) (.l (yt (.c (.int .u64 100000000))))))))))))) (.b (r9 0) (.b (r9 5) (r9 2)))))))
def zp2:HT Nat:=(.b (xh 0) (.b (.b (.b (xh 4) (.b (.b (.b (.b (.b (.b (xh 56) (xh 64)) (xh 9)) (xh 16)) (.b (.b (.b (.b (xh 10) (xh 117)) (.b (xh 12) (xh 128))) (.b (.b (xh 138) (xh 14)) (.b (xh 174) (xh 176)))) (.b (.b (.b (xh 185) (xh 20)) (.b (xh 238) (xh 239))) (.b (.b (xh 244) (xh 273)) (.b (xh 274) (xh 275)))))) (xh 8)) (.b (.b (.b (.b (.b (.b (xh 276) (xh 279)) (.b (xh 280) (xh 32))) (xh 5)) (.b (xh 6) (xh 7))) (xh 24)) (xh 3)))) (xh 2)) (xh 1)))
def dkpa:HT Pa:=(.b (.b (pz 2) (.b (pz 4) (.b (.b (pz 10) (.b (.b (.b (.b (.b (pz 273) (pz 274)) (.b (pz 275) (pz 276))) (.b (.b (pz 279) (pz 280)) (.b (pz 31) (pz 32)))) (pz 18)) (pz 12))) (pz 7)))) (.b (.b (.b (.b (pz 9) (.b (pz 13) (.b (.b (pz 21) (pz 25)) (.b (.b (.b (pz 33) (pz 35)) (pz 29)) (pz 19))))) (pz 6)) (pz 3)) (.b (.b (.b (.b (pz 0) (.b (pz 14) (pz 16))) (.b (.b (pz 17) (.b (pz 20) (pz 22))) (.b (.b (pz 23) (pz 24)) (.b (pz 26) (pz 27))))) (pz 1)) (.b (pz 5) (.b (.b (pz 11) (.b (pz 15) (.b (.b (pz 28) (.b (pz 30) (pz 34))) (.b (.b (.b (pz 117) (pz 138)) (.b (pz 174) (pz 176))) (.b (.b (pz 185) (pz 238)) (.b (pz 239) (pz 244))))))) (pz 8))))))
def zbr:HT (List AV):=(.b (.b (.l [(I 0)]) (.b (.l [.za]) (.l [(I 0),.za,(I 0),.za]))) (.b (.l [(I 0),.za]) (.b (.b (.l [(.str [])]) (.b (.b (.l [(I 0),.za,(I 0),.za,(I 0),.za,(I 0),.za]) (.l [.za,.za,(I 0)])) (.b (.b (.l [(.int .u64 0)]) (.l [.za,.za])) (.b (.b (.l [(.int .u8 0),(.int .u8 0),(.int .u8 0),(.int .u8 0),(.int .u8 0),(.int .u8 0),(.int .u8 0),(.int .u8 0),(.int .u8 0),(.int .u8 0),(.int .u8 0),(.int .u8 0),(.int .u8 0),(.int .u8 0),(.int .u8 0),(.int .u8 0),(.int .u8 0),(.int .u8 0),(.int .u8 0),(.int .u8 0),(.int .u8 0),(.int .u8 0),(.int .u8 0),(.int .u8 0)]) (.l [(I 0),(I 0),.za])) (.b (.l [.sw]) (.l [.sM,.za])))))) (.b (.l [(.bool false),.za]) (.b (.l [(I 0),(I 0)]) (.l [(.str []),.sw]))))))
def dkav:HT AV:=(.l (.bool false))
def dkoa:HT (Option Arg):=(.b (.l none) (.b (.b (.l (some (.c (I 1)))) (.b (.b (.l (some (.s 2))) (.l (some (.s 8)))) (.b (.l (some (.s 3))) (.b (.l (some (.s 1))) (.l (some (.s 16))))))) (.l (some (.s 0)))))
def dkon:HT (Option Nat):=(.l none)
def dkik:HT IntKind:=(.b (.b (.l .u32) (.l .u8)) (.b (.l .i64) (.l .u64)))
def dkkk:HT KK:=(.l .str)
def dkbo:HT Bool:=(.b (.l false) (.l true))
def sH:HT Dst:=(.b (.b (.l .none) (.b (.b (.b (.l (.loc (.of 4))) (.b (.l (.loc (.of 5))) (.b (.l (.loc (.of 7))) (.l (.loc (.of 10)))))) (.l (.loc (.of 1)))) (.b (.l (.loc (.of 2))) (.b (.b (.b (.l (.loc (.of 12))) (.b (.l (.loc (.of 11))) (.l (.loc (.of 13))))) (.b (.b (.l (.loc (.of 6))) (.b (.l (.loc (.of 8))) (.l (.loc (.of 14))))) (.b (.l (.loc (.of 9))) (.b (.b (.l (.loc (.of 16))) (.l (.loc (.of 20)))) (.b (.l (.loc (.of 21))) (.l (.loc (.of 31)))))))) (.l (.loc (.of 3))))))) (.l .push))
def zp3:HT (Arg->Arg->PO):=(.b (.b (.b (.b (.b (.l (PO.bin .shr .int)) (.l (PO.bin .eql (.nil .sl)))) (.l (PO.bin .geq .int))) (.b (.l (PO.bin .mul .int)) (.b (.b (.l (PO.bin .eql .str)) (.b (.l (PO.bin .neq .str)) (.b (.l (PO.bin .eql .bool)) (.l (PO.bin .neq .bool))))) (.l (PO.bin .quo .int))))) (.l (PO.bin .add .int))) (.b (.b (.l (PO.bin .sub .int)) (.b (.l (PO.bin .gtr .int)) (.l (PO.bin .eql .int)))) (.b (.b (.b (.b (.b (.l (PO.bin .leq .int)) (.b (.b (.l (PO.bin .eql (.agg 2))) (.l (PO.bin .neq (.nil .sl)))) (.l (PO.bin .and .int)))) (.l (PO.bin .add .str))) (.l (PO.bin .rem .int))) (.l (PO.bin .neq .int))) (.l (PO.bin .lss .int)))))
def qa2:HT Nat:=(.b (.b (xh 2) (.b (.b (.b (xh 9) (xh 8)) (xh 4)) (xh 3))) (.b (.b (.b (.b (xh 7) (xh 6)) (.b (.b (.b (.b (xh 11) (.b (.b (xh 17) (xh 19)) (.b (xh 26) (.b (xh 23) (xh 29))))) (xh 10)) (.b (.b (xh 15) (.b (xh 13) (xh 14))) (.b (.b (.b (.b (xh 38) (xh 49)) (xh 18)) (.b (xh 24) (xh 16))) (xh 12)))) (xh 5))) (xh 1)) (xh 0)))
def qa3:HT Nat:=(.b (.l 1) (.b (.l 2) (.l 0)))
def dka:Rd Arg:=dzrj qa1
def sJ:Rd (Option (Arg×Bool)):=dzrj ((.b (.b (.l (qj (λa=>some (a,false)) dka)) (.l (qj (λa=>some (a,true)) dka))) (.l (yt none))))
def dkck:Rd Arg:=dzrj ((.b (.l dka) (.l (qj (λk=>.c (.fn k (.of k) [])) (dzrk 512)))))
def dklp:Rd (Nat×Nat×Arg):=zi (qj (λa b=>(a,b)) (xk zp2)) (zi (qj (λa b=>(a,b)) (xk zp2)) dka)
def dkn:Rd Nat:=xk zp2
def dkp:Rd Pa:=xk dkpa
def oK {α:Type} (a:Rd α) (r:List α):Rd (List α):=dzrb (xk qa2) λk=>Nat.rec (yt r) (λ_ ih=>zi (qj List.cons a) ih) k
def dkwo:Rd WO:=dzrj (.b (.l (zi (yt WO.alloc) (xk zbr))) (.l (zi (zi (zi (zi (yt WO.cu) dkn) dkn) (xk zbr)) (oK dklp []))))
def dkro:Rd RO:=dzrj (.b (.b (.l (zi (qj RO.q dkp) (zi (yt PO.mv) dka))) (.l (qj RO.s (zi (yt PO.mv) dka)))) (.b (.b (.b (.b (.b (.l (zi (zi (qj RO.w (xk sH)) sJ) (zi (zi (zi (zi (yt WO.cu) dkn) dkn) (xk zbr)) (oK dklp [])))) (.b (.b (.l (qj RO.s (zi (yt PO.slen) dka))) (.b (.b (.l (qj RO.s (zi (yt PO.neg) dka))) (.b (.l (qj RO.s (zi (yt PO.b2s) dka))) (.l (qj RO.s (zi (yt PO.capz) dka))))) (.l (zi (zi (qj RO.p (xk sH)) sJ) (zi (yt PO.len) dka))))) (.l (zi (zi (qj RO.w (xk sH)) sJ) (zi (zi (zi (zi (yt WO.app) dkn) dkn) dka) dka))))) (.b (.b (.b (.l (qj RO.s (zi (zi (yt PO.sidx) dka) dka))) (.b (.l (zi (zi (qj RO.p (xk sH)) sJ) (zi (zi (yt PO.zk) dkn) dka))) (.l (zi (qj RO.q dkp) (zi (yt PO.not) dka))))) (.l (zi (qj RO.q dkp) (zi (zi (zi (yt PO.pick) dka) dka) dka)))) (.l (zi (zi (qj RO.p (xk sH)) sJ) (zi (yt PO.mv) dka))))) (.b (.l (zi (zi (qj RO.w (xk sH)) sJ) (zi (zi (zi (yt WO.store) dkn) dka) dka))) (.b (.b (.b (.b (.l (qj RO.s (zi (zi (zi (zi (zi (yt PO.slice) dkn) dka) (xk dkoa)) (xk dkoa)) (xk dkoa)))) (.b (.b (.b (.l (zi (zi (qj RO.p (xk sH)) sJ) (zi (zi (zi (yt PO.zai) dka) (xk dkoa)) (xk dkoa)))) (.l (qj RO.s (zi (zi (zi (zi (zi (yt PO.look) (xk dkkk)) (xk dkav)) (xk dkbo)) dka) dka)))) (.b (.l (qj RO.s (zi (zi (zi (yt PO.part) dkn) (xk dkon)) dka))) (.l (zi (zi (qj RO.w (xk sH)) sJ) (zi (zi (zi (zi (zi (yt WO.appm) dkn) dkn) (xk zbr)) dka) dka))))) (.l (zi (zi (qj RO.p (xk sH)) sJ) (zi (yt PO.slen) dka))))) (.b (.l (zi (zi (qj RO.p (xk sH)) sJ) (zi (yt PO.not) dka))) (.l (qj RO.s (zi (zi (zi (yt PO.fn) dkn) dkp) (oK dka [])))))) (.l (zi (qj RO.q dkp) (zi (yt PO.len) dka)))) (.l (zi (zi (qj RO.w (xk sH)) sJ) (zi (yt WO.alloc) (xk zbr))))))) (.b (.b (.l (qj RO.s (zi (zi (zi (yt PO.ax) dkn) dka) dka))) (.b (.b (.l (zi (zi (qj RO.p (xk sH)) sJ) (zi (yt PO.load) dka))) (.l (qj RO.s (zi (zi (zi (yt PO.pick) dka) dka) dka)))) (.l (qj RO.s (zi (yt PO.len) dka))))) (.b (.l (qj RO.s (zi (zi (yt PO.zfy) dkn) dka))) (.l (qj RO.s (zi (zi (yt PO.zk) dkn) dka)))))) (.b (.b (.b (.l (zi (qj RO.q dkp) (zi (zi (xk zp3) dka) dka))) (.b (.b (.b (.b (.l (qj RO.s (zi (yt PO.not) dka))) (.b (.b (.b (.l (zi (zi (qj RO.w (xk sH)) sJ) (zi (zi (zi (zi (yt WO.appq) dkn) dkn) dka) dka))) (.l (zi (zi (qj RO.w (xk sH)) sJ) (zi (zi (zi (zi (yt WO.zn5) (xk dkkk)) dka) dka) dka)))) (.l (zi (zi (qj RO.p (xk sH)) sJ) (zi (zi (zi (zi (yt PO.zfz) dkn) dkn) dka) dka)))) (.l (zi (zi (qj RO.w (xk sH)) sJ) (zi (zi (zi (zi (zi (yt WO.af) dkn) dkn) (xk zbr)) dka) dka))))) (.b (.l (zi (qj RO.q dkp) (zi (yt PO.load) dka))) (.b (.b (.l (zi (zi (qj RO.p (xk sH)) sJ) (zi (zi (zi (yt PO.fn) dkn) dkp) (oK dka [])))) (.l (zi (zi (qj RO.p (xk sH)) sJ) (zi (zi (yt PO.sidx) dka) dka)))) (.b (.l (zi (qj RO.q dkp) (zi (zi (zi (yt PO.part) dkn) (xk dkon)) dka))) (.l (qj RO.s (zi (zi (zi (zi (zi (zi (yt PO.aslice) dkn) dkn) dka) (xk dkoa)) (xk dkoa)) (xk dkoa)))))))) (.b (.l (zi (zi (qj RO.p (xk sH)) sJ) (zi (zi (yt PO.zfy) dkn) dka))) (.b (.l (qj RO.s (zi (zi (zi (yt PO.zai) dka) (xk dkoa)) (xk dkoa)))) (.b (.l (qj RO.s (zi (zi (zi (zi (yt PO.zfz) dkn) dkn) dka) dka))) (.b (.b (.l (zi (zi (qj RO.w (xk sH)) sJ) (yt WO.zak))) (.l (zi (zi (qj RO.p (xk sH)) sJ) (zi (zi (zi (yt PO.pick) dka) dka) dka)))) (.l (qj RO.s (zi (zi (zi (yt PO.zaj) (xk dkbo)) dka) (oK dka []))))))))) (.l (zi (zi (qj RO.w (xk sH)) sJ) (zi (yt WO.box) dka))))) (.l (qj RO.s (zi (zi (xk zp3) dka) dka)))) (.b (.l (zi (zi (qj RO.w (xk sH)) sJ) (zi (zi (yt WO.call) dkck) (oK dka [])))) (.b (.b (.l (qj RO.s (zi (zi (yt PO.ext) dkn) dka))) (.b (.l (zi (zi (qj RO.p (xk sH)) sJ) (zi (zi (xk zp3) dka) dka))) (.b (.b (.l (qj RO.s (zi (zi (yt PO.conv) (xk dkik)) dka))) (.l (zi (zi (qj RO.p (xk sH)) sJ) (zi (zi (zi (yt PO.ax) dkn) dka) dka)))) (.l (qj RO.s (zi (zi (yt PO.build) (xk zbr)) (oK dklp []))))))) (.l (qj RO.s (zi (yt PO.load) dka))))))))
def dkl:Rd (List RO):=oK dkro []
def dI (R:List IR) (n:Nat):IR:=(Nat.rec (motive:=λ_=>Rd IR) (yt .skip) (λ_ q=>dzrj (.b (.b (.b (.l (yt IR.skip)) (.l (zi (zi (zi (yt IR.cond) dka) q) q))) (.b (.b (.l (zi (qj IR.sD (oK dkwo [])) (oK (zi (qj (λa b=>(a,b)) dkro) (zi (qj (λa b=>(a,b)) dkn) (oK dkwo []))) []))) (.l (qj IR.reg dkl))) (.l (yt IR.ret)))) (.b (.b (.b (.l (zi (zi (yt IR.block) dkn) q)) (.b (.l (zi (yt IR.exit) dkn)) (.b (.b (.b (.l (zi (yt IR.bad) dkn)) (.l (zi (zi (zi (zi (yt IR.rf) dka) (oK dkp [])) q) q))) (.l (qj (λk=>dzlg R k) (xk qa3)))) (.l (zi (yt IR.loop) q))))) (.l (zi (qj IR.seq q) q))) (.l (zi (qj (λl=>IR.seq (.reg l)) dkl) q))))) 200 n).1
def dA (r:List RO) (n:Nat):List RO:=(oK dkro r n).1
end
end Go.Ev
namespace Go.Ev
open Go Go.Proofs
set_option maxRecDepth 100000
noncomputable section
abbrev aT2:Arg:=.t (.of 2)
abbrev aT3:Arg:=.t (.of 3)
abbrev aT4:Arg:=.t (.of 4)
abbrev aT5:Arg:=.t (.of 5)
abbrev aT6:Arg:=.t (.of 6)
abbrev aT7:Arg:=.t (.of 7)
abbrev aT8:Arg:=.t (.of 8)
abbrev aT9:Arg:=.t (.of 9)
abbrev aT10:Arg:=.t (.of 10)
abbrev aT11:Arg:=.t (.of 11)
abbrev aT12:Arg:=.t (.of 12)
abbrev aT13:Arg:=.t (.of 13)
abbrev aT14:Arg:=.t (.of 14)
abbrev aT15:Arg:=.t (.of 15)
abbrev aT16:Arg:=.t (.of 16)
abbrev aT17:Arg:=.t (.of 17)
abbrev aT18:Arg:=.t (.of 18)
abbrev aT20:Arg:=.t (.of 20)
abbrev aT21:Arg:=.t (.of 21)
abbrev aT22:Arg:=.t (.of 22)
abbrev aT23:Arg:=.t (.of 23)
abbrev aT24:Arg:=.t (.of 24)
abbrev aT25:Arg:=.t (.of 25)
abbrev aT26:Arg:=.t (.of 26)
abbrev aT27:Arg:=.t (.of 27)
abbrev aT28:Arg:=.t (.of 28)
abbrev aT29:Arg:=.t (.of 29)
abbrev aT30:Arg:=.t (.of 30)
abbrev aT31:Arg:=.t (.of 31)
abbrev aT35:Arg:=.t (.of 35)
abbrev aS0:Arg:=.s 0
abbrev aS1:Arg:=.s 1
abbrev aS2:Arg:=.s 2
abbrev aS3:Arg:=.s 3
abbrev aS4:Arg:=.s 4
abbrev aS5:Arg:=.s 5
abbrev aS8:Arg:=.s 8
abbrev aS11:Arg:=.s 11
abbrev aC0:Arg:=.c (I 0)
abbrev aC1:Arg:=.c (I 1)
abbrev F6.fr:=fr9
def F6.t0:IR:=.reg (dA [] 155318988)
def F6.t1:IR:=.reg (dA [] 520159386615278)
def F6.t2:IR:=.reg (dA [] 795612)
def F6.t6:IR:=.reg (dA [] 9712759664634807252897)
def F6.t7:IR:=.reg (dA [] 10233747759594458)
def F6.t8:IR:=.reg (dA [] 383749848)
def F6.t9:IR:=.reg (dA [] 85510431063507388397473)
def F6.zuw (r:List RO):List RO:=dA r 608084
def F6.r7_2:List RO:=F6.zuw []
def F6.zuv (r:List RO):List RO:=dA r 25455336
def F6.r7_1:List RO:=F6.zuv F6.r7_2
def F6.zuu (r:List RO):List RO:=dA r 12163525843065345677633081088630994
def F6.r7_0:List RO:=F6.zuu F6.r7_1
def F6.t12:IR:=.reg F6.r7_0
def F6.t13:IR:=.seq F6.t12 .ret
def F6.t18:IR:=.seq F6.t0 (.seq (.seq F6.t1 (.cond aT7 (.seq F6.t2 .ret) .skip)) (.seq F6.t6 (.seq F6.t7 (.seq (.seq F6.t8 (.cond aT8 F6.t9 .skip)) F6.t13))))
def F6.b0:IR:=F6.t18
def F6.res:List RV:=[.t (.of 2)]
def F6:Fn:={ params:=[(.of 0)],res:=F6.res,body:=F6.b0,init:=in9 }
theorem F6.ok:fnA Tryz.prog Tryz.f6 [0,1,2,3,4,5,6,9,19]=some F6:=by kernel_rfl
abbrev F16.fr:=fr9
def F16.b4:IR:=dI [] 391531715254014742133817240201710580245013337928153446393436922344504125
def F16.b3:IR:=(.loop F16.b4)
def F16.g2 (X3:IR):IR:=(.block 0 X3)
def F16.b2:IR:=F16.g2 F16.b3
def F16.b9:IR:=dI [] 836887
def F16.b0:IR:=dI [F16.b2,F16.b9] 513378294251628422596023297044325286436758616883
def F16.res:List RV:=[.t (.of 4)]
def F16:Fn:={ params:=[(.of 0),(.of 1),(.of 2)],res:=F16.res,body:=F16.b0,init:=in9 }
theorem F16.ok:fnA Tryz.prog Tryz.f16 [0,1,2,3,6,7,12,17,27]=some F16:=by kernel_rfl
abbrev F17.fr:=fr29
def F17.b0:IR:=dI [] 3523121715676103015842157166570465752347664784440043736532174624755749603672264864914775377906376492336752639427304358724355469540151575466242674869413086598659703045146471665372077428401290743212309274159568230275425414514961563130690085035195198660183124818720809380712505886373890378855435190511306329986613531120678902128209512127197687596491606986015508532107234546400251877701995058550632434342975122239561542711969219917245982768125297939612212287115308383977442393428917748501857279975376034679447523879699644049888207166052511260314475569285462027845702200424072899486697341490145935101666184862611290278741217078158542338452979299465083696117771552159437494765881629118132006724053479252688782741414099658352533234977657414143154455367986326180186793550921243115051917626350207483129281272484239669336203262265899575346360327788123625533388572118508544720728418599177571403650023326156931315492178904813113346601318716508342808370396844947917270756262724039141664778889702502107680465273513038435463357268138546821967444908476291276322954725539476788554216521410262294678874804829201781088095456655067146536883935706825745145315354453159454443057554012641530212270156388612781414425664706113780656719398859035218867361595763479587528991883131495047353943398576547564302046600782223412187810761823346353612060646942153897714071
def F17.res:List RV:=[.t (.of 0)]
def F17:Fn:={ params:=[],res:=F17.res,body:=F17.b0,init:=in29 }
theorem F17.ok:fnA Tryz.prog Tryz.f17 [0,1,2,3,4,5,6,7,8,9,10,11,12,13,14,15,16,17,18,19,20,21,22,23,24,25,26,127,165]=some F17:=by kernel_rfl
abbrev F18.fr:=fr11
def F18.b4:IR:=dI [] 26824190549172614388803238997117800692372195739505636341565217527792759
def F18.b3:IR:=(.loop F18.b4)
def F18.g2 (X3:IR):IR:=(.block 0 X3)
def F18.b2:IR:=F18.g2 F18.b3
def F18.b9:IR:=dI [] 103959
def F18.b0:IR:=dI [F18.b2,F18.b9] 261442606574405093733380770038489920432445806776250484880679483106720310874389612510700466355547454965811238265235114940302891098598533939
def F18.res:List RV:=[.t (.of 2)]
def F18:Fn:={ params:=[(.of 0)],res:=F18.res,body:=F18.b0,init:=in11 }
theorem F18.ok:fnA Tryz.prog Tryz.f18 [0,1,2,3,4,5,18,22,23,24,30]=some F18:=by kernel_rfl
abbrev F19.fr:=fr14
def F19.b16:IR:=dI [] 945757010069526953756434336329333812016945717862403139482565221250512165606252170055740946899068772270820721300296597
def F19.b17:IR:=dI [] 7614087018
def F19.b12:IR:=dI [F19.b16,F19.b17] 15217873421964841879126059740627807846267696715984999972088860806899699173634223983542006999823459111222149078660384727528963421
def F19.b11:IR:=(.loop F19.b12)
def F19.g10 (X11:IR):IR:=(.block 2 X11)
def F19.b10:IR:=F19.g10 F19.b11
def F19.b18:IR:=dI [] 2054541762814112990453739452725065415
def F19.b19:IR:=dI [] 2733298538
def F19.b5:IR:=dI [F19.b10,F19.b18,F19.b19] 402680918134813897649117775223803501167904550474664421393186979036707673830234941
def F19.b4:IR:=(.loop F19.b5)
def F19.g3 (X4:IR):IR:=(.block 0 X4)
def F19.b3:IR:=F19.g3 F19.b4
def F19.b20:IR:=dI [] 103959
def F19.b0:IR:=dI [F19.b3,F19.b20] 25176001696189677626659149788958811670384541895650818875378421486265266450420638970109694029003026328371
def F19.res:List RV:=[.t (.of 2)]
def F19:Fn:={ params:=[(.of 0)],res:=F19.res,body:=F19.b0,init:=in14 }
theorem F19.ok:fnA Tryz.prog Tryz.f19 [0,1,2,3,4,5,13,17,22,32,36,52,66,72]=some F19:=by kernel_rfl
abbrev F20.fr:=fr14
def F20.b0:IR:=dI [] 75731330603046856956675798747447760378621997792233826622158827502847494850550470805055596688708620300436630418444726810089359836327303191207622466685999771438800018722544230067266147997864692638093232209803888151912074283527670774888304025542247926859544411963594201126470499597193412997002578555142216978899615921527978543733106034863764703168337830032035548996168804181695675305354022787353290298482492817983741799287715062562154171782077658386946138361571799525873874593684882113448897331
def F20.res:List RV:=[.t (.of 2)]
def F20:Fn:={ params:=[(.of 0)],res:=F20.res,body:=F20.b0,init:=in14 }
theorem F20.ok:fnA Tryz.prog Tryz.f20 [0,1,2,3,4,5,6,7,20,23,24,25,26,71]=some F20:=by kernel_rfl
abbrev F22.fr:=fr4
def F22.t0:IR:=.reg (dA [] 155318988)
def F22.t1:IR:=.reg (dA [] 3579638967533205063191707118)
def F22.t2:IR:=.reg (dA [] 4741)
def F22.t6:IR:=.reg (dA [] 1081870451810072333967865604419647015024562)
def F22.t9:IR:=.seq F22.t0 (.seq (.seq F22.t1 (.cond aT3 (.seq F22.t2 .ret) .skip)) (.seq F22.t6 .ret))
def F22.b0:IR:=F22.t9
def F22.res:List RV:=[.t (.of 2)]
def F22:Fn:={ params:=[(.of 0)],res:=F22.res,body:=F22.b0,init:=in4 }
theorem F22.ok:fnA Tryz.prog Tryz.f22 [0,1,2,5]=some F22:=by kernel_rfl
abbrev F23.fr:=fr6
def F23.b0:IR:=dI [] 47925066488279890016094491738196001924599311722673766274491873792536614556442547835
def F23.res:List RV:=[.t (.of 2),.t (.of 3)]
def F23:Fn:={ params:=[(.of 0)],res:=F23.res,body:=F23.b0,init:=in6 }
theorem F23.ok:fnA Tryz.prog Tryz.f23 [0,1,2,3,4,8]=some F23:=by kernel_rfl
abbrev F24.fr:=fr14
def F24.b0:IR:=dI [] 4702285007303945222158850522199827247465857739529620720727959957150934713685775561623902090383933519997563772242486057898403349025859619753206542235522244791717640568219762405118028835013454989368680157414516273864101610894971
def F24.res:List RV:=[.t (.of 3),.t (.of 4)]
def F24:Fn:={ params:=[(.of 0),(.of 1)],res:=F24.res,body:=F24.b0,init:=in14 }
theorem F24.ok:fnA Tryz.prog Tryz.f24 [0,1,2,4,5,6,7,9,14,19,22,23,24,25]=some F24:=by kernel_rfl
abbrev F26.fr:=fr10
def F26.t0:IR:=.reg (dA [] 121764556)
def F26.t1:IR:=.reg [iQo 3 (.mv (.c .za))]
def F26.t2:IR:=.reg [iQo 4 (.mv aC1)]
def F26.t3:IR:=.reg (dA [] 69801865927119065)
def F26.t6:IR:=.reg (dA [] 3954056264186842)
def F26.t7:IR:=.reg (dA [] 39961205620206)
def F26.t8:IR:=.reg [iQo 7 (.mv aC0)]
def F26.t9:IR:=.reg (dA [] 24056570572394)
def F26.t12:IR:=dI [] 79898788746926913435670649570539260470673222832938726595701362
def F26.t14:IR:=.reg (dA [] 945643318)
def F26.t16:IR:=.seq (.seq F26.t9 (.cond aT9 .skip (.exit 2))) (.seq (.block 3 F26.t12) F26.t14)
def F26.t17:IR:=.loop F26.t16
def F26.t20:IR:=.reg (dA [] 1500761390920878253273)
def F26.t25:IR:=.reg (dA [] 70167606)
def F26.t27:IR:=.seq (.seq F26.t3 (.cond aT8 .skip (.exit 0))) (.seq (.block 1 (.seq F26.t6 (.seq F26.t7 (.seq (.seq F26.t8 (.block 2 F26.t17)) F26.t20)))) F26.t25)
def F26.t28:IR:=.loop F26.t27
def F26.t31:IR:=.reg (dA [] 3067846021457599321297)
def F26.t35:IR:=.seq F26.t0 (.seq F26.t1 (.seq (.seq F26.t2 (.block 0 F26.t28)) (.seq F26.t31 .ret)))
def F26.b0:IR:=F26.t35
def F26.res:List RV:=[.t (.of 2)]
def F26:Fn:={ params:=[(.of 0)],res:=F26.res,body:=F26.b0,init:=in10 }
theorem F26.ok:fnA Tryz.prog Tryz.f26 [0,1,2,3,4,5,6,7,12,23]=some F26:=by kernel_rfl
abbrev F29.fr:=fr7
def F29.b0:IR:=dI [] 67514104151047953442099027417177758105312662462823284400119372518722733891485626545865121689441919206439768587997446362024471
def F29.res:List RV:=[.t (.of 2)]
def F29:Fn:={ params:=[(.of 0),(.of 1)],res:=F29.res,body:=F29.b0,init:=in7 }
theorem F29.ok:fnA Tryz.prog Tryz.f29 [0,1,4,5,10,14,25]=some F29:=by kernel_rfl
abbrev F31.fr:=fr28
def F31.b0:IR:=dI [] 1597984283911471215321747660900897898994735518385930136793468000233892215311123031689902513044567757334474673773390951152971791138268216582567553628026848300445389794435149110432490857175050040890009786707369415054210573620781755543906281361061790474689056052609275274900238459173604258816807735289496595366686885043094558948394414411376750478715996997434178246316988826073124272361128648629847161938540359031819761530566950005964611980977029854237624619831798537424076141211021747909855817903773201978951929430556873138215371308601662218110300166957999893317615544612529365107472803273151655753595211173787075389958897610753357134293781838537759758712529991639409207011072724393915093873864531868898939
def F31.res:List RV:=[.t (.of 2),.t (.of 3)]
def F31:Fn:={ params:=[(.of 0)],res:=F31.res,body:=F31.b0,init:=in28 }
theorem F31.ok:fnA Tryz.prog Tryz.f31 [0,1,2,3,4,5,6,7,8,9,10,12,13,14,15,16,17,21,24,25,26,27,39,40,41,42,65,76]=some F31:=by kernel_rfl
abbrev F33.fr:=fr32
def F33.t0:IR:=.reg (dA [] 99950523806)
def F33.t1:IR:=.reg (dA [] 571389459950)
def F33.t2:IR:=.reg (dA [] 762037784)
def F33.t3:IR:=.reg (dA [] 10666038)
def F33.t8:IR:=.reg (dA [] 804346130284250)
def F33.t9:IR:=.reg (dA [] 369344)
def F33.t13:IR:=.reg (dA [] 435661)
def F33.t14:IR:=.reg (dA [] 19237)
def F33.t15:IR:=.reg [iQo 7 (.mv (.c .za))]
def F33.t16:IR:=.reg (dA [] 118268265412081721237827286969)
def F33.t17:IR:=.reg (dA [] 249860936477)
def F33.t19:IR:=.reg (dA [] 8554932760366)
def F33.t20:IR:=.reg (dA [] 497923479623179119766940019467445735161)
def F33.t21:IR:=.reg (dA [] 807006069591860774)
def F33.t22:IR:=.reg (dA [] 2124964410141)
def F33.t24:IR:=.reg (dA [] 474053046599881297158746)
def F33.t25:IR:=.reg (dA [] 30186549082678733439587772849)
def F33.t28:IR:=.reg (dA [] 6857177004)
def F33.t31:IR:=.seq F33.t22 (.seq (.cond aT24 .skip (.exit 2)) (.seq (.block 3 (.seq F33.t24 F33.t25)) F33.t28))
def F33.t32:IR:=.loop F33.t31
def F33.t35:IR:=.reg (dA [] 14793053524765444912118136241)
def F33.t36:IR:=.reg (dA [] 2180291391261)
def F33.t38:IR:=.reg (dA [] 16627008593710)
def F33.t39:IR:=dI [] 36189731415402077041054694391541439858518776703154
def F33.t42:IR:=.reg (dA [] 32627111852)
def F33.t45:IR:=.seq F33.t36 (.seq (.cond aT28 .skip (.exit 4)) (.seq (.block 5 (.seq F33.t38 F33.t39)) F33.t42))
def F33.t46:IR:=.loop F33.t45
def F33.t49:IR:=.reg (dA [] 397060663237142947913808855759779743154)
def F33.t50:IR:=.reg (dA [] 502661958008109594504943128471969)
def F33.t53:IR:=.reg (dA [] 4463746818558566790276491754713)
def F33.t60:IR:=.reg (dA [] 16179370924)
def F33.t63:IR:=.seq F33.t17 (.seq (.cond aT20 .skip (.exit 0)) (.seq (.block 1 (.seq F33.t19 (.seq F33.t20 (.seq (.seq F33.t21 (.block 2 F33.t32)) (.seq (.seq F33.t35 (.block 4 F33.t46)) (.seq (.seq F33.t49 (.cond aT29 F33.t50 .skip)) F33.t53)))))) F33.t60))
def F33.t64:IR:=.loop F33.t63
def F33.zn0 (r:List RO):List RO:=dA r 3352673933
def F33.zkp:List RO:=F33.zn0 []
def F33.znz (r:List RO):List RO:=dA r 34087206226849450576699046630131600272823793
def F33.zp4:List RO:=F33.znz F33.zkp
def F33.zny (r:List RO):List RO:=dA r 6157983150008959137497
def F33.znx:List RO:=F33.zny F33.zp4
def F33.t67:IR:=.reg F33.znx
def F33.t68:IR:=.reg (dA [] 369344)
def F33.t72:IR:=dI [] 23336987074666046108427010450222671796751764982141085391824927362142065580921802322
def F33.t73:IR:=.reg (dA [] 22216235896699122169562325534642)
def F33.t74:IR:=.reg (dA [] 515788849090136328539893536551815073)
def F33.t75:IR:=.reg (dA [] 357671616)
def F33.t79:IR:=.reg (dA [] 97520438)
def F33.t91:IR:=.seq F33.t0 (.seq (.seq F33.t1 (.seq F33.t2 (.cond aT15 (.seq F33.t3 .ret) .skip))) (.seq (.seq F33.t8 (.cond aT16 (.seq F33.t9 .ret) .skip)) (.seq F33.t13 (.seq F33.t14 (.seq F33.t15 (.seq (.seq F33.t16 (.block 0 F33.t64)) (.seq (.seq F33.t67 (.cond aT30 (.seq F33.t68 .ret) .skip)) (.seq F33.t72 (.seq F33.t73 (.seq (.seq F33.t74 (.cond aT31 (.seq F33.t75 .ret) .skip)) (.seq F33.t79 .ret)))))))))))
def F33.b0:IR:=F33.t91
def F33.res:List RV:=[.t (.of 2),.t (.of 3)]
def F33:Fn:={ params:=[(.of 0)],res:=F33.res,body:=F33.b0,init:=in32 }
theorem F33.ok:fnA Tryz.prog Tryz.f33 [0,1,2,3,4,5,6,7,9,10,12,14,15,16,17,21,26,29,30,31,32,38,39,40,41,53,54,55,56,75,97,120]=some F33:=by kernel_rfl
abbrev F34.fr:=fr11
def F34.t0:IR:=.reg (dA [] 99950523806)
def F34.t1:IR:=.reg (dA [] 33296921962875488892833)
def F34.t2:IR:=.reg (dA [] 935416)
def F34.t3:IR:=.reg (dA [] 369344)
def F34.t7:IR:=.reg (dA [] 12577500523600628535026554566011930789137673)
def F34.t8:IR:=.reg (dA [] 9167472497313525462721)
def F34.t9:IR:=.reg (dA [] 7114168)
def F34.t10:IR:=.reg (dA [] 357671616)
def F34.t14:IR:=.reg (dA [] 24381238)
def F34.t21:IR:=.seq F34.t0 (.seq F34.t1 (.seq (.seq F34.t2 (.cond aT9 (.seq F34.t3 .ret) .skip)) (.seq F34.t7 (.seq F34.t8 (.seq (.seq F34.t9 (.cond aT10 (.seq F34.t10 .ret) .skip)) (.seq F34.t14 .ret))))))
def F34.b0:IR:=F34.t21
def F34.res:List RV:=[.t (.of 2),.t (.of 3)]
def F34:Fn:={ params:=[(.of 0)],res:=F34.res,body:=F34.b0,init:=in11 }
theorem F34.ok:fnA Tryz.prog Tryz.f34 [0,1,2,3,4,5,6,7,8,15,32]=some F34:=by kernel_rfl
abbrev F35.fr:=fr5
def F35.t0:IR:=.reg (dA [] 625213132)
def F35.zut (r:List RO):List RO:=iQm 4 0::r
def F35.r1_3:List RO:=F35.zut []
def F35.zus (r:List RO):List RO:=dA r 13374404735666045387104335462796303504733033970
def F35.r1_2:List RO:=F35.zus F35.r1_3
def F35.tH (r:List RO):List RO:=dA r 1418158379017302
def F35.eF:List RO:=F35.tH F35.r1_2
def F35.tF (r:List RO):List RO:=dA r 265158739520953306
def F35.tX:List RO:=F35.tF F35.eF
def F35.t1:IR:=.reg F35.tX
def F35.t3:IR:=.seq F35.t0 (.seq F35.t1 .ret)
def F35.b0:IR:=F35.t3
def F35.res:List RV:=[.t (.of 4)]
def F35:Fn:={ params:=[(.of 0),(.of 1),(.of 2)],res:=F35.res,body:=F35.b0,init:=in5 }
theorem F35.ok:fnA Tryz.prog Tryz.f35 [0,1,2,3,6]=some F35:=by kernel_rfl
abbrev F36.fr:=fr5
def F36.t0:IR:=.reg [iQo 1 (.mv (.c .za))]
def F36.t1:IR:=.reg [iQo 2 (.mv (.c .za))]
def F36.t2:IR:=.reg [iQo 3 (.mv aC0)]
def F36.t3:IR:=.reg (dA [] 1049033014)
def F36.t6:IR:=.reg (dA [] 32641560612727169002)
def F36.t8:IR:=.reg (dA [] 170831158)
def F36.t10:IR:=.seq (.seq F36.t3 (.cond aT4 .skip (.exit 0))) (.seq (.block 1 F36.t6) F36.t8)
def F36.t11:IR:=.loop F36.t10
def F36.t14:IR:=.reg (dA [] 46072)
def F36.t18:IR:=.seq F36.t0 (.seq F36.t1 (.seq (.seq F36.t2 (.block 0 F36.t11)) (.seq F36.t14 .ret)))
def F36.b0:IR:=F36.t18
def F36.res:List RV:=[.t (.of 1)]
def F36:Fn:={ params:=[(.of 0)],res:=F36.res,body:=F36.b0,init:=in5 }
theorem F36.ok:fnA Tryz.prog Tryz.f36 [0,2,3,4,7]=some F36:=by kernel_rfl
abbrev F39.fr:=fr2
def F39.t0:IR:=.reg (dA [] 19301)
def F39.t1:IR:=.reg (dA [] 96425160182)
def F39.t3:IR:=.seq F39.t0 (.seq F39.t1 .ret)
def F39.b0:IR:=F39.t3
def F39.res:List RV:=[.t (.of 1)]
def F39:Fn:={ params:=[(.of 0)],res:=F39.res,body:=F39.b0,init:=in2 }
theorem F39.ok:fnA Tryz.prog Tryz.f39 [0,2]=some F39:=by kernel_rfl
abbrev F40.fr:=fr14
def F40.t0:IR:=.reg [iQo 2 (.mv (.c (.str [])))]
def F40.t1:IR:=.reg (dA [] 8728853301778240131035002818)
def F40.t2:IR:=.reg (dA [] 153805193482329726401963324354)
def F40.t3:IR:=.reg (dA [] 41773546476185578)
def F40.t4:IR:=.reg (dA [] 649332707333200712003116725929078105833)
def F40.t17:IR:=.seq F40.t0 (.seq F40.t1 (.seq F40.t2 (.seq (.seq F40.t3 (.cond aT13 (.seq F40.t4 .ret) .skip)) (.seq (.reg (dA [] 1092817179595902755841284365526689085378)) (.seq (.reg (dA [] 3304651793850316936933994764625324766146)) (.seq (.sD [] [((.s (.zk 2 aT9)),0,[]),((.s (.zk 2 aT12)),0,[]),((.s (.zk 2 aT11)),1,[]),((.s (.zk 2 aT10)),1,[]),((.s (.zk 2 aT10)),3,[]),((.s (.zk 2 aT12)),3,[]),((iCa 132 [aS5,aS4]),0,[]),((iCa 132 [aS4,aS3]),0,[]),((iCa 131 [aS1,aS0]),0,[]),((iCa 132 [aS4,aS3]),0,[]),((iCa 130 [aS1,aS0]),0,[]),((iQm 2 0),0,[])]) .ret))))))
def F40.b0:IR:=F40.t17
def F40.res:List RV:=[.t (.of 2)]
def F40:Fn:={ params:=[(.of 0),(.of 1)],res:=F40.res,body:=F40.b0,init:=in14 }
theorem F40.ok:fnA Tryz.prog Tryz.f40 [0,1,4,5,6,7,8,9,10,11,12,13,14,30]=some F40:=by kernel_rfl
abbrev F41.fr:=fr14
def F41.t0:IR:=.reg [iQo 2 (.mv (.c (.str [])))]
def F41.t1:IR:=.reg (dA [] 8728853301778240131035002818)
def F41.t2:IR:=.reg (dA [] 153805193482329726401963324354)
def F41.t3:IR:=.reg (dA [] 41773546476185578)
def F41.t4:IR:=.reg (dA [] 36910291062963588885603538)
def F41.t17:IR:=.seq F41.t0 (.seq F41.t1 (.seq F41.t2 (.seq (.seq F41.t3 (.cond aT13 (.seq F41.t4 .ret) .skip)) (.seq (.reg (dA [] 1092817179595902755841284365526689085378)) (.seq (.reg (dA [] 3304651793850316936933994764625324766146)) (.seq (.sD [] [((.s (.zk 2 aT9)),0,[]),((.s (.zk 2 aT11)),0,[]),((.s (.zk 2 aT10)),1,[]),((.s (.zk 2 aT12)),1,[]),((iCa 132 [aS3,aS2]),0,[]),((iCa 132 [aS2,aS1]),0,[]),((iCa 130 [aS1,aS0]),0,[]),((iQm 2 0),0,[])]) .ret))))))
def F41.b0:IR:=F41.t17
def F41.res:List RV:=[.t (.of 2)]
def F41:Fn:={ params:=[(.of 0),(.of 1)],res:=F41.res,body:=F41.b0,init:=in14 }
theorem F41.ok:fnA Tryz.prog Tryz.f41 [0,1,4,5,6,7,8,9,10,11,12,13,14,30]=some F41:=by kernel_rfl
abbrev F42.fr:=fr2
def F42.t0:IR:=.reg [iQo 1 (.mv (.c (.str [])))]
def F42.t1:IR:=.reg (dA [] 99819694262565866)
def F42.t3:IR:=.seq F42.t0 (.seq F42.t1 .ret)
def F42.b0:IR:=F42.t3
def F42.res:List RV:=[.t (.of 1)]
def F42:Fn:={ params:=[(.of 0)],res:=F42.res,body:=F42.b0,init:=in2 }
theorem F42.ok:fnA Tryz.prog Tryz.f42 [0,2]=some F42:=by kernel_rfl
abbrev F43.fr:=fr7
def F43.b0:IR:=dI [] 2941986650561953699719280777058196730649991070678305160519812916229382136116859
def F43.res:List RV:=[.t (.of 3),.t (.of 4)]
def F43:Fn:={ params:=[(.of 0),(.of 1)],res:=F43.res,body:=F43.b0,init:=in7 }
theorem F43.ok:fnA Tryz.prog Tryz.f43 [0,1,2,4,5,6,11]=some F43:=by kernel_rfl
abbrev F44.fr:=fr7
def F44.t0:IR:=.reg (dA [] 1725036236)
def F44.t1:IR:=.reg (dA [] 236357)
def F44.t2:IR:=.reg [iQo 5 (.mv aC0)]
def F44.t3:IR:=.reg (dA [] 141607416021596055121857)
def F44.zur (r:List RO):List RO:=iQm 4 0::r
def F44.r4_2:List RO:=F44.zur []
def F44.zfq (r:List RO):List RO:=dA r 132901195893151226
def F44.r4_1:List RO:=F44.zfq F44.r4_2
def F44.zfp (r:List RO):List RO:=dA r 17911570872946330820818
def F44.r4_0:List RO:=F44.zfp F44.r4_1
def F44.t6:IR:=.reg F44.r4_0
def F44.t8:IR:=.reg (dA [] 475880438)
def F44.t10:IR:=.seq (.seq F44.t3 (.cond aT6 .skip (.exit 0))) (.seq (.block 1 F44.t6) F44.t8)
def F44.t11:IR:=.loop F44.t10
def F44.t14:IR:=.reg (dA [] 10264)
def F44.t18:IR:=.seq F44.t0 (.seq F44.t1 (.seq (.seq F44.t2 (.block 0 F44.t11)) (.seq F44.t14 .ret)))
def F44.b0:IR:=F44.t18
def F44.res:List RV:=[.t (.of 3)]
def F44:Fn:={ params:=[(.of 0),(.of 1)],res:=F44.res,body:=F44.b0,init:=in7 }
theorem F44.ok:fnA Tryz.prog Tryz.f44 [0,1,2,4,5,6,13]=some F44:=by kernel_rfl
abbrev F47.fr:=fr6
def F47.b0:IR:=dI [] 1129170252019246662658733163109429946457974646499311222940771476218099870092329816023537232558645764060178288382760177410717944632955
def F47.res:List RV:=[.t (.of 2),.t (.of 3)]
def F47:Fn:={ params:=[(.of 0)],res:=F47.res,body:=F47.b0,init:=in6 }
theorem F47.ok:fnA Tryz.prog Tryz.f47 [0,1,2,3,4,14]=some F47:=by kernel_rfl
abbrev F48.fr:=fr7
def F48.b0:IR:=dI [] 1436516012015912020115859197818165869789811531139302150090940836640248018555
def F48.res:List RV:=[.t (.of 3),.t (.of 4)]
def F48:Fn:={ params:=[(.of 0),(.of 1)],res:=F48.res,body:=F48.b0,init:=in7 }
theorem F48.ok:fnA Tryz.prog Tryz.f48 [0,1,2,4,5,6,11]=some F48:=by kernel_rfl
abbrev F49.fr:=fr7
def F49.b4:IR:=dI [] 9432266600019475313595558419150622996778273503039270312898558740870504436878685
def F49.b3:IR:=(.loop F49.b4)
def F49.g2 (X3:IR):IR:=(.block 0 X3)
def F49.b2:IR:=F49.g2 F49.b3
def F49.b9:IR:=dI [] 418327
def F49.b0:IR:=dI [F49.b2,F49.b9] 15299867499101559424885410924707985672727
def F49.res:List RV:=[.t (.of 2)]
def F49:Fn:={ params:=[(.of 0),(.of 1)],res:=F49.res,body:=F49.b0,init:=in7 }
theorem F49.ok:fnA Tryz.prog Tryz.f49 [0,1,4,5,10,14,25]=some F49:=by kernel_rfl
abbrev F51.fr:=fr13
def F51.b0:IR:=dI [] 2300164835324249102411028946695514612715235695047367001833580972889176992071303852834134148887781783198978905007115045191939306063563227526790957053981358788987855466342050370110873236187815229346779925030095249547591669371
def F51.res:List RV:=[.t (.of 2),.t (.of 3)]
def F51:Fn:={ params:=[(.of 0)],res:=F51.res,body:=F51.b0,init:=in13 }
theorem F51.ok:fnA Tryz.prog Tryz.f51 [0,1,2,3,4,5,7,11,13,14,15,16,27]=some F51:=by kernel_rfl
abbrev F53.fr:=fr9
def F53.b0:IR:=dI [] 283174654045891368721360130649179903076288487572962336053464609036698678001046818438985550499423947125529869149246724553534882105879
def F53.res:List RV:=[.t (.of 2)]
def F53:Fn:={ params:=[(.of 0),(.of 1)],res:=F53.res,body:=F53.b0,init:=in9 }
theorem F53.ok:fnA Tryz.prog Tryz.f53 [0,1,4,5,10,12,13,14,24]=some F53:=by kernel_rfl
abbrev F65.fr:=fr7
def F65.b0:IR:=dI [] 2603886965119831815558513730938792261386365704951828332803395508722080809986795063429043550176595632424209054590432032546706348389212576440094701443987
def F65.res:List RV:=[.cell (.of 2) (some 2),.t (.of 3)]
def F65:Fn:={ params:=[(.of 0),(.of 1)],res:=F65.res,body:=F65.b0,init:=in7 }
theorem F65.ok:fnA Tryz.prog Tryz.f65 [0,1,4,5,6,7,20]=some F65:=by kernel_rfl
abbrev F69.fr:=fr10
def F69.b0:IR:=dI [] 22178316578691783119834031507055274909593322423600095234292556626276434606982681065322562448758202034937437744482323527167346696532512046019062282593966193147858483876645873735896494475873823026840982591971912028922958583366494417924401954988026771
def F69.res:List RV:=[.cell (.of 1) (some 2),.t (.of 2)]
def F69:Fn:={ params:=[(.of 0)],res:=F69.res,body:=F69.b0,init:=in10 }
theorem F69.ok:fnA Tryz.prog Tryz.f69 [0,2,3,4,5,6,11,14,15,16]=some F69:=by kernel_rfl
abbrev F78.fr:=fr7
def F78.b0:IR:=dI [] 1436516013595596395144216998286936285044868015922818041609828988013840938619
def F78.res:List RV:=[.t (.of 3),.t (.of 4)]
def F78:Fn:={ params:=[(.of 0),(.of 1)],res:=F78.res,body:=F78.b0,init:=in7 }
theorem F78.ok:fnA Tryz.prog Tryz.f78 [0,1,2,4,5,6,11]=some F78:=by kernel_rfl
abbrev F85.fr:=fr1
def F85.b0:IR:=dI [] 9912083194164493578805058967243471410727424365480714179567657367
def F85.res:List RV:=[.t (.of 0)]
def F85:Fn:={ params:=[],res:=F85.res,body:=F85.b0,init:=in1 }
theorem F85.ok:fnA Tryz.prog Tryz.f85 [0]=some F85:=by kernel_rfl
abbrev F86.fr:=fr8
def F86.b3:IR:=dI [] 86944933014045491121087678966059098353866590853619770487
def F86.b2:IR:=(.loop F86.b3)
def F86.g1 (X2:IR):IR:=(.block 0 X2)
def F86.b1:IR:=F86.g1 F86.b2
def F86.b8:IR:=dI [] 417175
def F86.b0:IR:=dI [F86.b1,F86.b8] 53082071237234878406039
def F86.res:List RV:=[.t (.of 1)]
def F86:Fn:={ params:=[(.of 0)],res:=F86.res,body:=F86.b0,init:=in8 }
theorem F86.ok:fnA Tryz.prog Tryz.f86 [0,2,4,5,6,7,8,12]=some F86:=by kernel_rfl
abbrev F87.fr:=fr6
def F87.b0:IR:=dI [] 581987395394752452572369737165815674579717720110715
def F87.res:List RV:=[.t (.of 5)]
def F87:Fn:={ params:=[(.of 0),(.of 1),(.of 2)],res:=F87.res,body:=F87.b0,init:=in6 }
theorem F87.ok:fnA Tryz.prog Tryz.f87 [0,1,2,3,4,6]=some F87:=by kernel_rfl
abbrev F88.fr:=fr4
def F88.b0:IR:=dI [] 479426699666649680664087
def F88.res:List RV:=[.t (.of 2)]
def F88:Fn:={ params:=[(.of 0),(.of 1)],res:=F88.res,body:=F88.b0,init:=in4 }
theorem F88.ok:fnA Tryz.prog Tryz.f88 [0,1,4,5]=some F88:=by kernel_rfl
abbrev F89.fr:=fr14
def F89.b4:IR:=dI [] 620136453594309393886820523879648779327184306251559474235931863209430248178797913805933294842692644170397467742636032278719131579685561608287691471619417746607019684908656608266556744536870859495635458404112503
def F89.b3:IR:=(.loop F89.b4)
def F89.g2 (X3:IR):IR:=(.block 0 X3)
def F89.b2:IR:=F89.g2 F89.b3
def F89.b9:IR:=dI [] 4506787016204504198962906190281873953025685195
def F89.b0:IR:=dI [F89.b2,F89.b9] 666403030310680686163905973469826329830045395712581607286224709409348631021476659
def F89.res:List RV:=[.t (.of 3)]
def F89:Fn:={ params:=[(.of 0),(.of 1)],res:=F89.res,body:=F89.b0,init:=in14 }
theorem F89.ok:fnA Tryz.prog Tryz.f89 [0,1,2,4,5,6,7,8,16,17,18,19,20,48]=some F89:=by kernel_rfl
abbrev F90.fr:=fr6
def F90.b3:IR:=dI [] 1047191955373274962345486049156200322914908313663424601303960925
def F90.b2:IR:=(.loop F90.b3)
def F90.g1 (X2:IR):IR:=(.block 0 X2)
def F90.b1:IR:=F90.g1 F90.b2
def F90.b8:IR:=dI [] 215575
def F90.b0:IR:=dI [F90.b1,F90.b8] 395492305324567
def F90.res:List RV:=[.t (.of 2)]
def F90:Fn:={ params:=[(.of 0),(.of 1)],res:=F90.res,body:=F90.b0,init:=in6 }
theorem F90.ok:fnA Tryz.prog Tryz.f90 [0,1,4,5,9,17]=some F90:=by kernel_rfl
abbrev F91.fr:=fr4
def F91.b0:IR:=dI [] 32036084965933213573816179219251
def F91.res:List RV:=[.t (.of 3)]
def F91:Fn:={ params:=[(.of 0),(.of 1)],res:=F91.res,body:=F91.b0,init:=in4 }
theorem F91.ok:fnA Tryz.prog Tryz.f91 [0,1,3,4]=some F91:=by kernel_rfl
abbrev F92.fr:=fr10
def F92.b0:IR:=dI [] 147563984446774311787716014524813149288946572546867590481514521180540674766695055836501393640736108091363746270204452993296375057993463491
def F92.res:List RV:=[.t (.of 1),.t (.of 2)]
def F92:Fn:={ params:=[(.of 0)],res:=F92.res,body:=F92.b0,init:=in10 }
theorem F92.ok:fnA Tryz.prog Tryz.f92 [0,2,3,4,6,7,8,9,10,14]=some F92:=by kernel_rfl
abbrev F93.fr:=fr36
def F93.t0:IR:=.reg (dA [] 49239423692)
def F93.t1:IR:=.reg (dA [] 21483118)
def F93.t2:IR:=.reg [iQo 4 (.mv (.c .za))]
def F93.t3:IR:=.reg [iQo 5 (.mv (.c .za))]
def F93.t4:IR:=.reg [iQo 6 (.mv aC1)]
def F93.t5:IR:=.reg (dA [] 557488519153301209)
def F93.t8:IR:=.reg (dA [] 543847581473781753642407122)
def F93.t9:IR:=dI [] 37519118584854325832680926112485577097352297988546834610
def F93.t10:IR:=.reg (dA [] 51003749772425926)
def F93.t11:IR:=.reg (dA [] 220750360861)
def F93.t13:IR:=.reg (dA [] 10806661564531891161)
def F93.t14:IR:=dI [] 2368438245194554381349568048404268242278018765426
def F93.t17:IR:=.reg (dA [] 5576112044)
def F93.t20:IR:=.seq F93.t11 (.seq (.cond aT21 .skip (.exit 2)) (.seq (.block 3 (.seq F93.t13 F93.t14)) F93.t17))
def F93.t21:IR:=.loop F93.t20
def F93.t24:IR:=.reg (dA [] 408710454)
def F93.znn (r:List RO):List RO:=dA r 667511809872722620
def F93.zp5:List RO:=F93.znn []
def F93.znm (r:List RO):List RO:=dA r 7271107680021401155417126343227662103923922
def F93.znl:List RO:=F93.znm F93.zp5
def F93.t25:IR:=.reg F93.znl
def F93.t28:IR:=.reg (dA [] 1634841398)
def F93.t30:IR:=.seq (.seq F93.t25 (.cond aT22 .skip (.exit 4))) (.block 5 F93.t28)
def F93.t31:IR:=.loop F93.t30
def F93.t33:IR:=.reg (dA [] 3073579416)
def F93.t36:IR:=.reg (dA [] 589530094241598613334068616385)
def F93.t37:IR:=.reg (dA [] 206263911977334374)
def F93.t38:IR:=.reg (dA [] 1159100101405)
def F93.t40:IR:=.reg (dA [] 16627948576558)
def F93.t41:IR:=.reg (dA [] 8586043668066779140354836673)
def F93.t44:IR:=.reg (dA [] 15447357356)
def F93.t47:IR:=.seq F93.t38 (.seq (.cond aT27 .skip (.exit 6)) (.seq (.block 7 (.seq F93.t40 F93.t41)) F93.t44))
def F93.t48:IR:=.loop F93.t47
def F93.t51:IR:=.reg (dA [] 80736985791398543308777101397973176751326025)
def F93.t61:IR:=.reg (dA [] 610098614)
def F93.t63:IR:=.seq (.seq F93.t5 (.cond aT17 .skip (.exit 0))) (.seq (.block 1 (.seq F93.t8 (.seq F93.t9 (.seq (.seq F93.t10 (.block 2 F93.t21)) (.seq F93.t24 (.seq (.block 4 F93.t31) (.seq (.seq F93.t33 (.cond aT23 (.exit 1) .skip)) (.seq F93.t36 (.seq (.seq F93.t37 (.block 6 F93.t48)) F93.t51))))))))) F93.t61)
def F93.t64:IR:=.loop F93.t63
def F93.t67:IR:=.reg (dA [] 12000717)
def F93.t68:IR:=.reg (dA [] 6292580080)
def F93.t69:IR:=.reg (dA [] 32304814901522205)
def F93.t71:IR:=.reg (dA [] 570911832)
def F93.t72:IR:=.reg (dA [] 869575670051830)
def F93.t75:IR:=.reg (dA [] 150673284406)
def F93.t76:IR:=.reg (dA [] 14739231064811216958823385)
def F93.t77:IR:=.reg (dA [] 6999972117338683077318)
def F93.t78:IR:=.reg (dA [] 148184839909661)
def F93.t80:IR:=.reg (dA [] 14985684092136522807501529)
def F93.t81:IR:=.reg (dA [] 2227348692766409605746537001323817322971372248809)
def F93.t84:IR:=.reg (dA [] 117989950892)
def F93.t87:IR:=.seq F93.t78 (.seq (.cond aT35 .skip (.exit 10)) (.seq (.block 11 (.seq F93.t80 F93.t81)) F93.t84))
def F93.t88:IR:=.loop F93.t87
def F93.t91:IR:=dI [] 1781802577789618211255175981915000077532126870063464108254084949094867852134038988300919621684726715574898
def F93.t98:IR:=.reg (dA [] 12681838249388)
def F93.t101:IR:=.seq F93.t69 (.seq (.cond aT30 .skip (.exit 8)) (.seq (.block 9 (.seq F93.t71 (.seq (.seq F93.t72 (.cond aT31 (.exit 9) .skip)) (.seq F93.t75 (.seq F93.t76 (.seq (.seq F93.t77 (.block 10 F93.t88)) F93.t91)))))) F93.t98))
def F93.t102:IR:=.loop F93.t101
def F93.t105:IR:=.reg (dA [] 34194405108)
def F93.t113:IR:=.seq F93.t0 (.seq F93.t1 (.seq F93.t2 (.seq F93.t3 (.seq (.seq F93.t4 (.block 0 F93.t64)) (.seq F93.t67 (.seq (.seq F93.t68 (.block 8 F93.t102)) (.seq F93.t105 .ret)))))))
def F93.b0:IR:=F93.t113
def F93.res:List RV:=[.cell (.of 2) (some 2)]
def F93:Fn:={ params:=[(.of 0)],res:=F93.res,body:=F93.b0,init:=in36 }
theorem F93.ok:fnA Tryz.prog Tryz.f93 [0,1,2,3,4,5,6,7,8,9,10,12,13,14,15,16,17,24,43,44,45,46,72,76,84,85,86,87,106,107,108,112,119,120,121,122]=some F93:=by kernel_rfl
abbrev F94.fr:=fr4
def F94.b0:IR:=dI [] 56658776837154743841832223832850393492307102466990816733141058560255080733942702803810458786611
def F94.res:List RV:=[.t (.of 3)]
def F94:Fn:={ params:=[(.of 0),(.of 1)],res:=F94.res,body:=F94.b0,init:=in4 }
theorem F94.ok:fnA Tryz.prog Tryz.f94 [0,1,2,4]=some F94:=by kernel_rfl
abbrev F95.fr:=fr5
def F95.b0:IR:=dI [] 634138823041927229435556986289253925829771476479825741863731
def F95.res:List RV:=[.t (.of 3)]
def F95:Fn:={ params:=[(.of 0),(.of 1)],res:=F95.res,body:=F95.b0,init:=in5 }
theorem F95.ok:fnA Tryz.prog Tryz.f95 [0,1,2,4,5]=some F95:=by kernel_rfl
abbrev F96.fr:=fr2
def F96.t0:IR:=.reg (dA [] 112077)
def F96.t1:IR:=.reg (dA [] 65449316655765109738)
def F96.t3:IR:=.seq F96.t0 (.seq F96.t1 .ret)
def F96.b0:IR:=F96.t3
def F96.res:List RV:=[.cell (.of 1) (some 4)]
def F96:Fn:={ params:=[(.of 0)],res:=F96.res,body:=F96.b0,init:=in2 }
theorem F96.ok:fnA Tryz.prog Tryz.f96 [0,2]=some F96:=by kernel_rfl
abbrev F97.fr:=fr4
def F97.b0:IR:=dI [] 14424286245458562146001287001157765360817860914579497554280034944888291673056570153454926991715123
def F97.res:List RV:=[.t (.of 2)]
def F97:Fn:={ params:=[(.of 0)],res:=F97.res,body:=F97.b0,init:=in4 }
theorem F97.ok:fnA Tryz.prog Tryz.f97 [0,1,2,4]=some F97:=by kernel_rfl
abbrev F98.fr:=fr7
def F98.t0:IR:=.reg (dA [] 248641228)
def F98.t1:IR:=.reg (dA [] 36578590194906)
def F98.t2:IR:=.reg [iQo 5 (.mv aC0)]
def F98.t3:IR:=.reg (dA [] 2111551162062836055519186)
def F98.t6:IR:=.reg (dA [] 3943248326689303267743099256395171337)
def F98.t8:IR:=.reg (dA [] 475880438)
def F98.t10:IR:=.seq (.seq F98.t3 (.cond aT6 .skip (.exit 0))) (.seq (.block 1 F98.t6) F98.t8)
def F98.t11:IR:=.loop F98.t10
def F98.t14:IR:=.reg (dA [] 10264)
def F98.t18:IR:=.seq F98.t0 (.seq F98.t1 (.seq (.seq F98.t2 (.block 0 F98.t11)) (.seq F98.t14 .ret)))
def F98.b0:IR:=F98.t18
def F98.res:List RV:=[.t (.of 3)]
def F98:Fn:={ params:=[(.of 0),(.of 1)],res:=F98.res,body:=F98.b0,init:=in7 }
theorem F98.ok:fnA Tryz.prog Tryz.f98 [0,1,2,4,5,6,17]=some F98:=by kernel_rfl
abbrev F99.fr:=fr3
def F99.t0:IR:=.reg [iQo 2 (.mv (.c (.str [])))]
def F99.t1:IR:=.reg (dA [] 3029299304846714841)
def F99.t3:IR:=.seq F99.t0 (.seq F99.t1 .ret)
def F99.b0:IR:=F99.t3
def F99.res:List RV:=[.t (.of 2)]
def F99:Fn:={ params:=[(.of 0),(.of 1)],res:=F99.res,body:=F99.b0,init:=in3 }
theorem F99.ok:fnA Tryz.prog Tryz.f99 [0,1,4]=some F99:=by kernel_rfl
abbrev fH.fr:=fr3
def fH.t0:IR:=.reg [iQo 1 (.mv (.c .za))]
def fH.t1:IR:=.reg (dA [] 20184703046744766401)
def fH.t2:IR:=.reg (dA [] 46072)
def fH.t5:IR:=.seq fH.t0 (.seq fH.t1 (.seq fH.t2 .ret))
def fH.b0:IR:=fH.t5
def fH.res:List RV:=[.t (.of 1)]
def fH:Fn:={ params:=[(.of 0)],res:=fH.res,body:=fH.b0,init:=in3 }
theorem fH.ok:fnA Tryz.prog Tryz.f100 [0,2,3]=some fH:=by kernel_rfl
abbrev yc.fr:=fr12
def yc.t0:IR:=.reg [iQo 2 (.mv (.c .za))]
def yc.t1:IR:=.reg (dA [] 151761869760001177537)
def yc.t2:IR:=.reg [iQo 5 (.mv (.c .za))]
def yc.t3:IR:=.reg [iQo 6 (.mv aC0)]
def yc.t4:IR:=.reg (dA [] 8330737078)
def yc.t7:IR:=.reg (dA [] 13606399694902)
def yc.t10:IR:=.reg (dA [] 60469927158)
def yc.t11:IR:=.reg (dA [] 6680122058567274)
def yc.t12:IR:=.reg [iQo 8 (.mv aC0)]
def yc.t13:IR:=.reg (dA [] 48168516507370)
def yc.t16:IR:=dI [] 83779961739266008254359554137129669282266563763897209893485916293746
def yc.t18:IR:=.reg (dA [] 4172987254)
def yc.t20:IR:=.seq (.seq yc.t13 (.cond aT11 .skip (.exit 2))) (.seq (.block 3 yc.t16) yc.t18)
def yc.t21:IR:=.loop yc.t20
def yc.t24:IR:=.reg (dA [] 4182114402559168663513)
def yc.t30:IR:=.reg (dA [] 610098614)
def yc.t32:IR:=.seq (.seq yc.t4 (.cond aT9 .skip (.exit 0))) (.seq (.block 1 (.seq (.seq yc.t7 (.cond aT10 (.exit 1) .skip)) (.seq yc.t10 (.seq yc.t11 (.seq (.seq yc.t12 (.block 2 yc.t21)) yc.t24))))) yc.t30)
def yc.t33:IR:=.loop yc.t32
def yc.t36:IR:=.reg (dA [] 697547766)
def yc.t41:IR:=.seq yc.t0 (.seq yc.t1 (.seq yc.t2 (.seq (.seq yc.t3 (.block 0 yc.t33)) (.seq yc.t36 .ret))))
def yc.b0:IR:=yc.t41
def yc.res:List RV:=[.t (.of 2)]
def yc:Fn:={ params:=[(.of 0),(.of 1)],res:=yc.res,body:=yc.b0,init:=in12 }
theorem yc.ok:fnA Tryz.prog Tryz.f101 [0,1,4,5,6,7,8,9,10,18,23,32]=some yc:=by kernel_rfl
abbrev jl.fr:=fr9
def jl.t0:IR:=.reg [iQo 2 (.mv (.c .za))]
def jl.t1:IR:=.reg (dA [] 21824265718)
def jl.t2:IR:=.reg (dA [] 1633148096230)
def jl.t3:IR:=.reg (dA [] 192544541)
def jl.t5:IR:=.reg (dA [] 2281275182)
def jl.t6:IR:=.reg (dA [] 115150242693837632333017)
def jl.t9:IR:=.reg (dA [] 59111852)
def jl.t12:IR:=.seq jl.t3 (.seq (.cond aT8 .skip (.exit 0)) (.seq (.block 1 (.seq jl.t5 jl.t6)) jl.t9))
def jl.t13:IR:=.loop jl.t12
def jl.t16:IR:=.reg (dA [] 152)
def jl.t20:IR:=.seq jl.t0 (.seq jl.t1 (.seq (.seq jl.t2 (.block 0 jl.t13)) (.seq jl.t16 .ret)))
def jl.b0:IR:=jl.t20
def jl.res:List RV:=[.t (.of 2)]
def jl:Fn:={ params:=[(.of 0),(.of 1)],res:=jl.res,body:=jl.b0,init:=in9 }
theorem jl.ok:fnA Tryz.prog Tryz.f104 [0,1,4,5,7,10,11,12,13]=some jl:=by kernel_rfl
abbrev jm.fr:=fr7
def jm.t0:IR:=.reg [iQo 1 (.mv (.c .za))]
def jm.t1:IR:=.reg (dA [] 447288724982)
def jm.t2:IR:=.reg (dA [] 3070939126)
def jm.t3:IR:=.reg (dA [] 3143965)
def jm.t5:IR:=.reg (dA [] 20984)
def jm.t6:IR:=.reg (dA [] 115150242693741058252761)
def jm.t9:IR:=.reg (dA [] 29745068)
def jm.t12:IR:=.seq jm.t3 (.seq (.cond aT6 .skip (.exit 0)) (.seq (.block 1 (.seq jm.t5 jm.t6)) jm.t9))
def jm.t13:IR:=.loop jm.t12
def jm.t16:IR:=.reg (dA [] 46072)
def jm.t20:IR:=.seq jm.t0 (.seq jm.t1 (.seq (.seq jm.t2 (.block 0 jm.t13)) (.seq jm.t16 .ret)))
def jm.b0:IR:=jm.t20
def jm.res:List RV:=[.t (.of 1)]
def jm:Fn:={ params:=[(.of 0)],res:=jm.res,body:=jm.b0,init:=in7 }
theorem jm.ok:fnA Tryz.prog Tryz.f105 [0,2,3,4,8,9,10]=some jm:=by kernel_rfl
abbrev jv.fr:=fr11
def jv.t0:IR:=.reg (dA [] 261533)
def jv.t1:IR:=.reg (dA [] 6582971465510)
def jv.t2:IR:=.reg (dA [] 484172061)
def jv.t4:IR:=.reg (dA [] 601486236335191314651508177)
def jv.t5:IR:=.reg (dA [] 102229107359478254)
def jv.t6:IR:=dI [] 1335165368444230914327461146598939827106498024301223691170419431160434
def jv.t11:IR:=.reg (dA [] 260823980)
def jv.t14:IR:=.seq jv.t2 (.seq (.cond aT9 .skip (.exit 0)) (.seq (.block 1 (.seq jv.t4 (.seq jv.t5 (.cond aT10 jv.t6 .skip)))) jv.t11))
def jv.t15:IR:=.loop jv.t14
def jv.t18:IR:=.seq jv.t0 (.seq jv.t1 (.block 0 jv.t15))
def jv.b0:IR:=jv.t18
def jv.res:List RV:=[]
def jv:Fn:={ params:=[(.of 0),(.of 1),(.of 2)],res:=jv.res,body:=jv.b0,init:=in11 }
theorem jv.ok:fnA Tryz.prog Tryz.f106 [0,1,2,4,6,7,8,9,10,11,17]=some jv:=by kernel_rfl
abbrev ny.fr:=fr3
def ny.t0:IR:=.reg (dA [] 3605396172)
def ny.t1:IR:=dI [] 144797368723564542136946671106423522950277234
def ny.t3:IR:=.seq ny.t0 (.seq ny.t1 .ret)
def ny.b0:IR:=ny.t3
def ny.res:List RV:=[.cell (.of 2) (some 4)]
def ny:Fn:={ params:=[(.of 0)],res:=ny.res,body:=ny.b0,init:=in3 }
theorem ny.ok:fnA Tryz.prog Tryz.f107 [0,1,2]=some ny:=by kernel_rfl
abbrev F108.fr:=fr8
def F108.b0:IR:=dI [] 402150821536549745464210493543812179523409548985403254368020996631906597261081460428199447
def F108.res:List RV:=[.t (.of 2)]
def F108:Fn:={ params:=[(.of 0),(.of 1)],res:=F108.res,body:=F108.b0,init:=in8 }
theorem F108.ok:fnA Tryz.prog Tryz.f108 [0,1,4,5,7,8,9,16]=some F108:=by kernel_rfl
abbrev F109.fr:=fr3
def F109.b0:IR:=dI [] 3720690365418880221806324531
def F109.res:List RV:=[.t (.of 2)]
def F109:Fn:={ params:=[(.of 0)],res:=F109.res,body:=F109.b0,init:=in3 }
theorem F109.ok:fnA Tryz.prog Tryz.f109 [0,1,2]=some F109:=by kernel_rfl
abbrev nu.fr:=fr3
def nu.t0:IR:=.reg (dA [] 46267084)
def nu.t1:IR:=.reg (dA [] 5916172655834)
def nu.t3:IR:=.seq nu.t0 (.seq nu.t1 .ret)
def nu.b0:IR:=nu.t3
def nu.res:List RV:=[.t (.of 2)]
def nu:Fn:={ params:=[(.of 0)],res:=nu.res,body:=nu.b0,init:=in3 }
theorem nu.ok:fnA Tryz.prog Tryz.f110 [0,1,2]=some nu:=by kernel_rfl
end
end Go.Ev
