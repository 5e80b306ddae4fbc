import Derived.Test.YtfgpjkchdelphaaGreatDoorEvC
import Derived.Test.YtfgpjkchdelphaaGreatDoorProg
import Derived.KernelRfl
set_option linter.unusedSimpArgs false
set_option linter.unusedVariables false
namespace Go.Ev
open Go
inductive HT (α:Type) where
  | l (x:α) | b (x y:HT α)
abbrev Rd (α:Type):=Nat->α×Nat
noncomputable section
abbrev zU:List AV:=[(.int .u8 0),(.int .u8 0),(.int .u8 0),(.int .u8 0),(.int .u8 0),(.int .u8 0),(.int .u8 0),(.int .u8 0),(.int .u8 0),(.int .u8 0),(.int .u8 0),(.int .u8 0),(.int .u8 0),(.int .u8 0),(.int .u8 0),(.int .u8 0),(.int .u8 0),(.int .u8 0),(.int .u8 0),(.int .u8 0),(.int .u8 0),(.int .u8 0),(.int .u8 0),(.int .u8 0),(.int .u8 0),(.int .u8 0),(.int .u8 0),(.int .u8 0),(.int .u8 0),(.int .u8 0),(.int .u8 0),(.int .u8 0),(.int .u8 0),(.int .u8 0),(.int .u8 0),(.int .u8 0),(.int .u8 0),(.int .u8 0),(.int .u8 0),(.int .u8 0),(.int .u8 0),(.int .u8 0),(.int .u8 0),(.int .u8 0),(.int .u8 0),(.int .u8 0),(.int .u8 0),(.int .u8 0),(.int .u8 0),(.int .u8 0),(.int .u8 0),(.int .u8 0),(.int .u8 0),(.int .u8 0),(.int .u8 0),(.int .u8 0),(.int .u8 0),(.int .u8 0),(.int .u8 0),(.int .u8 0),(.int .u8 0),(.int .u8 0),(.int .u8 0),(.int .u8 0),(.int .u8 0),(.int .u8 0),(.int .u8 0),(.int .u8 0),(.int .u8 0),(.int .u8 0),(.int .u8 0),(.int .u8 0),(.int .u8 0),(.int .u8 0),(.int .u8 0),(.int .u8 0),(.int .u8 0),(.int .u8 0),(.int .u8 0),(.int .u8 0),(.int .u8 0),(.int .u8 0),(.int .u8 0),(.int .u8 0),(.int .u8 0),(.int .u8 0),(.int .u8 0),(.int .u8 0),(.int .u8 0),(.int .u8 0),(.int .u8 0),(.int .u8 0),(.int .u8 0),(.int .u8 0),(.int .u8 0),(.int .u8 0),(.int .u8 0),(.int .u8 0),(.int .u8 0),(.int .u8 0),(.int .u8 0),(.int .u8 0),(.int .u8 0),(.int .u8 0),(.int .u8 0),(.int .u8 0),(.int .u8 0),(.int .u8 0),(.int .u8 0),(.int .u8 0),(.int .u8 0),(.int .u8 0),(.int .u8 0),(.int .u8 0),(.int .u8 0),(.int .u8 0),(.int .u8 0),(.int .u8 0),(.int .u8 0),(.int .u8 0),(.int .u8 0),(.int .u8 0),(.int .u8 0),(.int .u8 0),(.int .u8 0),(.int .u8 0),(.int .u8 0),(.int .u8 0)]
abbrev iSm (n:Nat):RO:=.s (.mv (.t (.of n)))
abbrev iQm (n m:Nat):RO:=.q (.of n) (.mv (.s m))
abbrev iQo (n:Nat) (o:PO):RO:=.q (.of n) o
abbrev iPf (n:Nat) (o:PO):RO:=.p .push (some (.s n,false)) o
abbrev iPt (n:Nat) (o:PO):RO:=.p .push (some (.s n,true)) o
abbrev iCa (n:Nat) (l:List Arg):RO:=.w .push none (.call (.c (.fn n (.of n) [])) l)
abbrev iWl (n:Nat) (o:WO):RO:=.w (.loc (.of n)) none o
abbrev iSr (l:List RO) (c:IR):IR:=.seq (.reg l) c
def fr1 (x0:AV):T AV:=(.n .e x0 .e)
def fr2 (x0 x1:AV):T AV:=(.n (.n .e x1 .e) x0 .e)
def fr3 (x0 x1 x2:AV):T AV:=(.n (.n .e x1 .e) x0 (.n .e x2 .e))
def fr4 (x0 x1 x2 x3:AV):T AV:=(.n (.n (.n .e x3 .e) x1 .e) x0 (.n .e x2 .e))
def fr5 (x0 x1 x2 x3 x4:AV):T AV:=(.n (.n (.n .e x3 .e) x1 .e) x0 (.n (.n .e x4 .e) x2 .e))
def fr6 (x0 x1 x2 x3 x4 x5:AV):T AV:=(.n (.n (.n .e x3 .e) x1 (.n .e x5 .e)) x0 (.n (.n .e x4 .e) x2 .e))
def fr7 (x0 x1 x2 x3 x4 x5 x6:AV):T AV:=(.n (.n (.n .e x3 .e) x1 (.n .e x5 .e)) x0 (.n (.n .e x4 .e) x2 (.n .e x6 .e)))
def fr8 (x0 x1 x2 x3 x4 x5 x6 x7:AV):T AV:=(.n (.n (.n (.n .e x7 .e) x3 .e) x1 (.n .e x5 .e)) x0 (.n (.n .e x4 .e) x2 (.n .e x6 .e)))
def fr9 (x0 x1 x2 x3 x4 x5 x6 x7 x8:AV):T AV:=(.n (.n (.n (.n .e x7 .e) x3 .e) x1 (.n .e x5 .e)) x0 (.n (.n (.n .e x8 .e) x4 .e) x2 (.n .e x6 .e)))
def fr10 (x0 x1 x2 x3 x4 x5 x6 x7 x8 x9:AV):T AV:=(.n (.n (.n (.n .e x7 .e) x3 .e) x1 (.n (.n .e x9 .e) x5 .e)) x0 (.n (.n (.n .e x8 .e) x4 .e) x2 (.n .e x6 .e)))
def fr11 (x0 x1 x2 x3 x4 x5 x6 x7 x8 x9 x10:AV):T AV:=(.n (.n (.n (.n .e x7 .e) x3 .e) x1 (.n (.n .e x9 .e) x5 .e)) x0 (.n (.n (.n .e x8 .e) x4 .e) x2 (.n (.n .e x10 .e) x6 .e)))
def fr12 (x0 x1 x2 x3 x4 x5 x6 x7 x8 x9 x10 x11:AV):T AV:=(.n (.n (.n (.n .e x7 .e) x3 (.n .e x11 .e)) x1 (.n (.n .e x9 .e) x5 .e)) x0 (.n (.n (.n .e x8 .e) x4 .e) x2 (.n (.n .e x10 .e) x6 .e)))
def fr13 (x0 x1 x2 x3 x4 x5 x6 x7 x8 x9 x10 x11 x12:AV):T AV:=(.n (.n (.n (.n .e x7 .e) x3 (.n .e x11 .e)) x1 (.n (.n .e x9 .e) x5 .e)) x0 (.n (.n (.n .e x8 .e) x4 (.n .e x12 .e)) x2 (.n (.n .e x10 .e) x6 .e)))
def fr14 (x0 x1 x2 x3 x4 x5 x6 x7 x8 x9 x10 x11 x12 x13:AV):T AV:=(.n (.n (.n (.n .e x7 .e) x3 (.n .e x11 .e)) x1 (.n (.n .e x9 .e) x5 (.n .e x13 .e))) x0 (.n (.n (.n .e x8 .e) x4 (.n .e x12 .e)) x2 (.n (.n .e x10 .e) x6 .e)))
def fr15 (x0 x1 x2 x3 x4 x5 x6 x7 x8 x9 x10 x11 x12 x13 x14:AV):T AV:=(.n (.n (.n (.n .e x7 .e) x3 (.n .e x11 .e)) x1 (.n (.n .e x9 .e) x5 (.n .e x13 .e))) x0 (.n (.n (.n .e x8 .e) x4 (.n .e x12 .e)) x2 (.n (.n .e x10 .e) x6 (.n .e x14 .e))))
def fr18 (x0 x1 x2 x3 x4 x5 x6 x7 x8 x9 x10 x11 x12 x13 x14 x15 x16 x17:AV):T AV:=(.n (.n (.n (.n (.n .e x15 .e) x7 .e) x3 (.n .e x11 .e)) x1 (.n (.n (.n .e x17 .e) x9 .e) x5 (.n .e x13 .e))) x0 (.n (.n (.n (.n .e x16 .e) x8 .e) x4 (.n .e x12 .e)) x2 (.n (.n .e x10 .e) x6 (.n .e x14 .e))))
def fr19 (x0 x1 x2 x3 x4 x5 x6 x7 x8 x9 x10 x11 x12 x13 x14 x15 x16 x17 x18:AV):T AV:=(.n (.n (.n (.n (.n .e x15 .e) x7 .e) x3 (.n .e x11 .e)) x1 (.n (.n (.n .e x17 .e) x9 .e) x5 (.n .e x13 .e))) x0 (.n (.n (.n (.n .e x16 .e) x8 .e) x4 (.n .e x12 .e)) x2 (.n (.n (.n .e x18 .e) x10 .e) x6 (.n .e x14 .e))))
def fr23 (x0 x1 x2 x3 x4 x5 x6 x7 x8 x9 x10 x11 x12 x13 x14 x15 x16 x17 x18 x19 x20 x21 x22:AV):T AV:=(.n (.n (.n (.n (.n .e x15 .e) x7 .e) x3 (.n (.n .e x19 .e) x11 .e)) x1 (.n (.n (.n .e x17 .e) x9 .e) x5 (.n (.n .e x21 .e) x13 .e))) x0 (.n (.n (.n (.n .e x16 .e) x8 .e) x4 (.n (.n .e x20 .e) x12 .e)) x2 (.n (.n (.n .e x18 .e) x10 .e) x6 (.n (.n .e x22 .e) x14 .e))))
def fr28 (x0 x1 x2 x3 x4 x5 x6 x7 x8 x9 x10 x11 x12 x13 x14 x15 x16 x17 x18 x19 x20 x21 x22 x23 x24 x25 x26 x27:AV):T AV:=(.n (.n (.n (.n (.n .e x15 .e) x7 (.n .e x23 .e)) x3 (.n (.n .e x19 .e) x11 (.n .e x27 .e))) x1 (.n (.n (.n .e x17 .e) x9 (.n .e x25 .e)) x5 (.n (.n .e x21 .e) x13 .e))) x0 (.n (.n (.n (.n .e x16 .e) x8 (.n .e x24 .e)) x4 (.n (.n .e x20 .e) x12 .e)) x2 (.n (.n (.n .e x18 .e) x10 (.n .e x26 .e)) x6 (.n (.n .e x22 .e) x14 .e))))
def fr29 (x0 x1 x2 x3 x4 x5 x6 x7 x8 x9 x10 x11 x12 x13 x14 x15 x16 x17 x18 x19 x20 x21 x22 x23 x24 x25 x26 x27 x28:AV):T AV:=(.n (.n (.n (.n (.n .e x15 .e) x7 (.n .e x23 .e)) x3 (.n (.n .e x19 .e) x11 (.n .e x27 .e))) x1 (.n (.n (.n .e x17 .e) x9 (.n .e x25 .e)) x5 (.n (.n .e x21 .e) x13 .e))) x0 (.n (.n (.n (.n .e x16 .e) x8 (.n .e x24 .e)) x4 (.n (.n .e x20 .e) x12 (.n .e x28 .e))) x2 (.n (.n (.n .e x18 .e) x10 (.n .e x26 .e)) x6 (.n (.n .e x22 .e) x14 .e))))
def fr32 (x0 x1 x2 x3 x4 x5 x6 x7 x8 x9 x10 x11 x12 x13 x14 x15 x16 x17 x18 x19 x20 x21 x22 x23 x24 x25 x26 x27 x28 x29 x30 x31:AV):T AV:=(.n (.n (.n (.n (.n (.n .e x31 .e) x15 .e) x7 (.n .e x23 .e)) x3 (.n (.n .e x19 .e) x11 (.n .e x27 .e))) x1 (.n (.n (.n .e x17 .e) x9 (.n .e x25 .e)) x5 (.n (.n .e x21 .e) x13 (.n .e x29 .e)))) x0 (.n (.n (.n (.n .e x16 .e) x8 (.n .e x24 .e)) x4 (.n (.n .e x20 .e) x12 (.n .e x28 .e))) x2 (.n (.n (.n .e x18 .e) x10 (.n .e x26 .e)) x6 (.n (.n .e x22 .e) x14 (.n .e x30 .e)))))
def fr36 (x0 x1 x2 x3 x4 x5 x6 x7 x8 x9 x10 x11 x12 x13 x14 x15 x16 x17 x18 x19 x20 x21 x22 x23 x24 x25 x26 x27 x28 x29 x30 x31 x32 x33 x34 x35:AV):T AV:=(.n (.n (.n (.n (.n (.n .e x31 .e) x15 .e) x7 (.n .e x23 .e)) x3 (.n (.n (.n .e x35 .e) x19 .e) x11 (.n .e x27 .e))) x1 (.n (.n (.n (.n .e x33 .e) x17 .e) x9 (.n .e x25 .e)) x5 (.n (.n .e x21 .e) x13 (.n .e x29 .e)))) x0 (.n (.n (.n (.n (.n .e x32 .e) x16 .e) x8 (.n .e x24 .e)) x4 (.n (.n .e x20 .e) x12 (.n .e x28 .e))) x2 (.n (.n (.n (.n .e x34 .e) x18 .e) x10 (.n .e x26 .e)) x6 (.n (.n .e x22 .e) x14 (.n .e x30 .e)))))
abbrev in1:T AV:=fr1 .u
abbrev in2:T AV:=fr2 .u .u
abbrev in3:T AV:=fr3 .u .u .u
abbrev in4:T AV:=fr4 .u .u .u .u
abbrev in5:T AV:=fr5 .u .u .u .u .u
abbrev in6:T AV:=fr6 .u .u .u .u .u .u
abbrev in7:T AV:=fr7 .u .u .u .u .u .u .u
abbrev in8:T AV:=fr8 .u .u .u .u .u .u .u .u
abbrev in9:T AV:=fr9 .u .u .u .u .u .u .u .u .u
abbrev in10:T AV:=fr10 .u .u .u .u .u .u .u .u .u .u
abbrev in11:T AV:=fr11 .u .u .u .u .u .u .u .u .u .u .u
abbrev in12:T AV:=fr12 .u .u .u .u .u .u .u .u .u .u .u .u
abbrev in13:T AV:=fr13 .u .u .u .u .u .u .u .u .u .u .u .u .u
abbrev in14:T AV:=fr14 .u .u .u .u .u .u .u .u .u .u .u .u .u .u
abbrev in15:T AV:=fr15 .u .u .u .u .u .u .u .u .u .u .u .u .u .u .u
abbrev in18:T AV:=fr18 .u .u .u .u .u .u .u .u .u .u .u .u .u .u .u .u .u .u
abbrev in19:T AV:=fr19 .u .u .u .u .u .u .u .u .u .u .u .u .u .u .u .u .u .u .u
abbrev in23:T AV:=fr23 .u .u .u .u .u .u .u .u .u .u .u .u .u .u .u .u .u .u .u .u .u .u .u
abbrev in28:T AV:=fr28 .u .u .u .u .u .u .u .u .u .u .u .u .u .u .u .u .u .u .u .u .u .u .u .u .u .u .u .u
abbrev in29:T AV:=fr29 .u .u .u .u .u .u .u .u .u .u .u .u .u .u .u .u .u .u .u .u .u .u .u .u .u .u .u .u .u
abbrev in32:T AV:=fr32 .u .u .u .u .u .u .u .u .u .u .u .u .u .u .u .u .u .u .u .u .u .u .u .u .u .u .u .u .u .u .u .u
abbrev in36:T AV:=fr36 .u .u .u .u .u .u .u .u .u .u .u .u .u .u .u .u .u .u .u .u .u .u .u .u .u .u .u .u .u .u .u .u .u .u .u .u
def fD (n:Nat):HT Pa:=.l (.of n)
def vg (n:Nat):HT Nat:=.l n
def yt {α:Type} (x:α):Rd α:=λn=>(x,n)
def oG (n:Nat):HT (Rd Arg):=.l (yt (.s n))
def rW (n:Nat):HT (Rd Arg):=.l (yt (.t (.of n)))
def au (n:Nat):HT (Rd Arg):=.l (yt (.c (I n)))
def dzrk (b:Nat):Rd Nat:=λn=>(Nat.mod n b,Nat.div n b)
def dzrb {α β:Type} (a:Rd α) (f:α->Rd β):Rd β:=λn=>Prod.rec (λx m=>f x m) (a n)
def zk {α β:Type} (f:Rd (α->β)) (a:Rd α):Rd β:=λn=>Prod.rec (λg m=>Prod.rec (λx k=>(g x,k)) (a m)) (f n)
def qj {α β:Type} (g:α->β) (a:Rd α):Rd β:=λn=>Prod.rec (λx k=>(g x,k)) (a n)
def dw {α:Type} (t:HT α):Rd α:=HT.rec (λx n=>(x,n)) (λ_ _ f g n=>bif Nat.beq (Nat.mod n 2) 0 then f (Nat.div n 2) else g (Nat.div n 2)) t
def dzrj {α:Type} (t:HT (Rd α)):Rd α:=dzrb (dw t) (λf=>f)
def dzlg (l:List IR):Nat->IR:=List.rec (λ_=>.skip) (λx _ ih k=>Nat.rec x (λm _=>ih m) k) l
def qbr:HT (Rd Arg):=(.b (oG 0) (.b (.b (.b (.b (rW 4) (rW 2)) (.b (rW 3) (.b (.b (rW 10) (.b (au 2) (oG 8))) (.b (.b (.b (.b (.l (yt (.c (.int .u32 1)))) (.l (yt (.c (.int .u32 2))))) (.b (.l (yt (.c (.str [])))) (oG 12))) (.b (.b (rW 17) (rW 24)) (.l (yt (.c (.str [48,48,48,49,48,50,48,51,48,52,48,53,48,54,48,55,48,56,48,57,49,48,49,49,49,50,49,51,49,52,49,53,49,54,49,55,49,56,49,57,50,48,50,49,50,50,50,51,50,52,50,53,50,54,50,55,50,56,50,57,51,48,51,49,51,50,51,51,51,52,51,53,51,54,51,55,51,56,51,57,52,48,52,49,52,50,52,51,52,52,52,53,52,54,52,55,52,56,52,57,53,48,53,49,53,50,53,51,53,52,53,53,53,54,53,55,53,56,53,57,54,48,54,49,54,50,54,51,54,52,54,53,54,54,54,55,54,56,54,57,55,48,55,49,55,50,55,51,55,52,55,53,55,54,55,55,55,56,55,57,56,48,56,49,56,50,56,51,56,52,56,53,56,54,56,55,56,56,56,57,57,48,57,49,57,50,57,51,57,52,57,53,57,54,57,55,57,56,57,57])))))) (.b (.b (au 3) (oG 9)) (.b (.b (.l (qj Arg.s (dzrk 64))) (.l (yt (.c (.int .u32 100))))) (.b (.l (yt (.c (.str [48])))) (au 16)))))))) (.b (.b (.b (rW 7) (.b (.b (.b (.b (au 4) (.l (qj (λk=>.t (.of k)) (dzrk 512)))) (.b (.b (.l (yt (.c (.int .u32 10000)))) (.l (yt (.c (.int .u64 0))))) (.b (.l (yt (.c (.int .u8 45)))) (rW 29)))) (.b (.b (.b (rW 34) (.b (.l (yt (.c (.int .u64 16)))) (.l (yt (.c (.int .u64 8)))))) (.b (.b (.l (yt (.c (.str [0,1,2,2,3,3,3,3,4,4,4,4,4,4,4,4,5,5,5,5,5,5,5,5,5,5,5,5,5,5,5,5,6,6,6,6,6,6,6,6,6,6,6,6,6,6,6,6,6,6,6,6,6,6,6,6,6,6,6,6,6,6,6,6,7,7,7,7,7,7,7,7,7,7,7,7,7,7,7,7,7,7,7,7,7,7,7,7,7,7,7,7,7,7,7,7,7,7,7,7,7,7,7,7,7,7,7,7,7,7,7,7,7,7,7,7,7,7,7,7,7,7,7,7,7,7,7,7,8,8,8,8,8,8,8,8,8,8,8,8,8,8,8,8,8,8,8,8,8,8,8,8,8,8,8,8,8,8,8,8,8,8,8,8,8,8,8,8,8,8,8,8,8,8,8,8,8,8,8,8,8,8,8,8,8,8,8,8,8,8,8,8,8,8,8,8,8,8,8,8,8,8,8,8,8,8,8,8,8,8,8,8,8,8,8,8,8,8,8,8,8,8,8,8,8,8,8,8,8,8,8,8,8,8,8,8,8,8,8,8,8,8,8,8,8,8,8,8,8,8,8,8,8,8,8,8])))) (.l (yt (.c (.str [110,111,114,109,97,108]))))) (.b (.l (yt (.c (.str [45,49])))) (.l (yt (.c (.str [50,47,51]))))))) (.b (.b (.b (.l (yt (.c (.str [97,115,115,111,99,105,97,116,105,118,101])))) (.l (yt (.c (I (-4000000000000000000)))))) (.b (.l (yt (.c (I (-9223372036854775808))))) (.l (yt (.c (I (-999999999))))))) (.b (.b (au 4000000000000000000) (au 999999999)) (.b (.l (yt (.c .sO))) (.b (.l (yt (.c (.fn 109 (.of 109) [])))) (.l (yt (.c (.fn 180 (.of 180) [])))))))))) (.b (.b (.b (.b (.b (.b (.l (yt (.c (.fn 220 (.of 220) [])))) (.l (yt (.c (.fn 221 (.of 221) []))))) (.b (.l (yt (.c (.fn 222 (.of 222) [])))) (.l (yt (.c (.fn 223 (.of 223) [])))))) (.b (.b (.l (yt (.c (.fn 224 (.of 224) [])))) (.l (yt (.c (.fn 225 (.of 225) []))))) (.b (.l (yt (.c (.fn 226 (.of 226) [])))) (.l (yt (.c (.fn 227 (.of 227) []))))))) (.b (.b (.b (.l (yt (.c (.fp (o9 2))))) (.l (yt (.c (.int .u32 256))))) (.b (.l (yt (.c (.int .u32 48)))) (.l (yt (.c (.int .u32 65536)))))) (.b (.b (.l (yt (.c (.int .u64 1)))) (.l (yt (.c (.int .u64 1000000000000000000))))) (.b (.l (yt (.c (.int .u64 18)))) (.l (yt (.c (.int .u64 256)))))))) (.b (.b (.b (.b (.l (yt (.c (.int .u64 4294967296)))) (.l (yt (.c (.int .u64 65536))))) (.b (.l (yt (.c (.int .u64 9223372036854775807)))) (.l (yt (.c (.int .u8 47)))))) (.b (.b (.l (yt (.c (.str [109,111,115,116,45,112,101,114,102,101,99,116])))) (.l (yt (.c (.str [32]))))) (.b (.l (yt (.c (.str [45,49,47,51])))) (.l (yt (.c (.str [45,50,47,51]))))))) (.b (.b (.b (.l (yt (.c (.str [48,49,50,51,52,53,54,55,56,57,97,98,99,100,101,102,103,104,105,106,107,108,109,110,111,112,113,114,115,116,117,118,119,120,121,122])))) (.l (yt (.c (.str [48,49,50,51,52,53,54,55,56,57]))))) (.b (.l (yt (.c (.str [49,47,51])))) (.l (yt (.c (.str [50])))))) (.b (.b (.l (yt (.c (.str [52,47,51])))) (.l (yt (.c (.str [54]))))) (.b (.l (yt (.c (.str [55])))) (.l (yt (.c (.str [98,105,109,97,103,105,99]))))))))) (oG 6)))) (.b (rW 6) (.l (yt (.c (.bool false)))))) (.b (oG 2) (.b (.b (rW 9) (.b (rW 12) (.b (.b (.l (yt (.c (.str [109,97,103,105,99])))) (au 1000000000)) (.b (au 15) (au 8))))) (.b (.l (yt (.c .zb))) (rW 8)))))) (.b (.b (oG 1) (.b (au 0) (.b (oG 3) (.b (.b (.b (.b (rW 19) (.l (yt (.c (I (-1)))))) (oG 10)) (.b (rW 14) (.b (au 5) (au 9)))) (.b (.b (.b (.b (.l (yt (.c (.str [112,97,110,100,105,97,103,111,110,97,108])))) (.l (yt (.c (.str [45]))))) (.b (au 12) (au 6))) (.b (.b (oG 13) (rW 22)) (.b (rW 23) (rW 25)))) (.b (.b (.b (rW 27) (.b (.b (.l (yt (.c (.str [98,111,114,100,101,114,101,100])))) (au 1048576)) (.l (yt (.c (.int .u64 4294967295)))))) (au 10)) (oG 7))))))) (.b (.b (rW 1) (.b (au 1) (rW 5))) (.b (rW 0) (.b (.b (oG 4) (.b (oG 5) (.b (.l (qj (λk=>.c (I (.ofNat k))) (dzrk 16384))) (.b (rW 16) (rW 18))))) (.b (.b (.b (.b (rW 20) (.b (.l (yt (.c (.int .u64 32)))) (.l (yt (.c (.str [115,101,109,105,109,97,103,105,99])))))) (.b (.b (.l (yt (.c (.str [49])))) (au 7)) (.b (oG 11) (rW 21)))) (.l (yt (.c (.bool true))))) (.b (rW 11) (.b (rW 13) (.b (.b (rW 26) (.b (.l (yt (.c (.str [47])))) (.b (au 78913) (.l (yt (.c (.int .u64 100000000))))))) (rW 15)))))))))))
def zpu:HT Nat:=(.b (vg 0) (.b (.b (.b (vg 4) (.b (.b (vg 8) (.b (.b (vg 5) (vg 16)) (.b (.b (.b (.b (vg 10) (vg 117)) (.b (vg 12) (vg 128))) (.b (.b (vg 138) (vg 14)) (.b (vg 174) (vg 176)))) (.b (.b (.b (vg 185) (vg 20)) (.b (vg 238) (vg 239))) (.b (.b (vg 244) (vg 273)) (.b (vg 274) (vg 275))))))) (.b (.b (.b (.b (.b (.b (vg 276) (vg 279)) (.b (vg 280) (vg 32))) (vg 6)) (.b (vg 7) (.b (.b (vg 56) (vg 64)) (vg 9)))) (vg 24)) (vg 3)))) (vg 2)) (vg 1)))
def dkpa:HT Pa:=(.b (.b (fD 2) (.b (fD 4) (.b (.b (fD 10) (fD 9)) (fD 7)))) (.b (.b (.b (.b (.b (.b (.b (.b (.b (fD 273) (fD 274)) (.b (fD 275) (fD 276))) (.b (.b (fD 279) (fD 280)) (.b (fD 31) (fD 32)))) (fD 18)) (fD 12)) (.b (fD 13) (.b (.b (fD 21) (fD 25)) (fD 14)))) (fD 1)) (.b (fD 6) (.b (.b (.b (.b (.b (.b (fD 33) (fD 35)) (fD 29)) (fD 19)) (fD 16)) (fD 0)) (.b (.b (fD 17) (.b (fD 20) (fD 22))) (.b (.b (fD 23) (fD 24)) (.b (fD 26) (fD 27))))))) (.b (fD 3) (.b (fD 5) (.b (fD 8) (.b (fD 11) (.b (fD 15) (.b (.b (fD 28) (.b (fD 30) (fD 34))) (.b (.b (.b (fD 117) (fD 138)) (.b (fD 174) (fD 176))) (.b (.b (fD 185) (fD 238)) (.b (fD 239) (fD 244))))))))))))
def zbt:HT (List AV):=(.b (.b (.b (.l [.zb]) (.l [(I 0),.zb,(I 0),.zb])) (.l [(I 0)])) (.b (.l [(I 0),.zb]) (.b (.b (.l [(.str [])]) (.b (.b (.l [(I 0),.zb,(I 0),.zb,(I 0),.zb,(I 0),.zb]) (.l [.zb,.zb,(I 0)])) (.b (.b (.l [(.int .u64 0)]) (.l [.zb,.zb])) (.b (.b (.l [(.int .u8 0),(.int .u8 0),(.int .u8 0),(.int .u8 0),(.int .u8 0),(.int .u8 0),(.int .u8 0),(.int .u8 0),(.int .u8 0),(.int .u8 0),(.int .u8 0),(.int .u8 0),(.int .u8 0),(.int .u8 0),(.int .u8 0),(.int .u8 0),(.int .u8 0),(.int .u8 0),(.int .u8 0),(.int .u8 0),(.int .u8 0),(.int .u8 0),(.int .u8 0),(.int .u8 0)]) (.l [(I 0),(I 0),.zb])) (.b (.l [.sO]) (.l [.sV,.zb])))))) (.b (.l [(.bool false),.zb]) (.b (.l [(I 0),(I 0)]) (.l [(.str []),.sO]))))))
def dkav:HT AV:=(.l (.bool false))
def dkoa:HT (Option Arg):=(.b (.l none) (.b (.b (.l (some (.c (I 1)))) (.b (.b (.l (some (.s 2))) (.l (some (.s 8)))) (.b (.l (some (.s 3))) (.b (.l (some (.s 1))) (.l (some (.s 16))))))) (.l (some (.s 0)))))
def dkon:HT (Option Nat):=(.l none)
def dkik:HT IntKind:=(.b (.b (.l .u32) (.l .u8)) (.b (.l .i64) (.l .u64)))
def dkkk:HT KK:=(.l .str)
def dkbo:HT Bool:=(.b (.l false) (.l true))
def tF:HT Dst:=(.b (.b (.l .none) (.b (.b (.b (.l (.loc (.of 4))) (.b (.l (.loc (.of 5))) (.b (.l (.loc (.of 7))) (.l (.loc (.of 10)))))) (.l (.loc (.of 1)))) (.b (.b (.b (.b (.l (.loc (.of 12))) (.b (.l (.loc (.of 11))) (.l (.loc (.of 13))))) (.b (.b (.l (.loc (.of 6))) (.b (.l (.loc (.of 8))) (.l (.loc (.of 14))))) (.b (.l (.loc (.of 9))) (.b (.b (.l (.loc (.of 16))) (.l (.loc (.of 20)))) (.b (.l (.loc (.of 21))) (.l (.loc (.of 31)))))))) (.l (.loc (.of 3)))) (.l (.loc (.of 2)))))) (.l .push))
def zpv:HT (Arg->Arg->PO):=(.b (.b (.b (.b (.b (.l (PO.bin .shr .int)) (.b (.b (.b (.l (PO.bin .eql (.agg 2))) (.l (PO.bin .neq (.nil .sl)))) (.l (PO.bin .neq .str))) (.b (.l (PO.bin .and .int)) (.b (.l (PO.bin .eql .bool)) (.l (PO.bin .neq .bool)))))) (.l (PO.bin .geq .int))) (.b (.l (PO.bin .mul .int)) (.b (.l (PO.bin .eql (.nil .sl))) (.l (PO.bin .quo .int))))) (.b (.l (PO.bin .sub .int)) (.b (.l (PO.bin .gtr .int)) (.b (.b (.b (.l (PO.bin .eql .str)) (.l (PO.bin .leq .int))) (.l (PO.bin .add .str))) (.l (PO.bin .rem .int)))))) (.b (.l (PO.bin .add .int)) (.b (.b (.l (PO.bin .eql .int)) (.l (PO.bin .neq .int))) (.l (PO.bin .lss .int)))))
def qbs:HT Nat:=(.b (.b (.b (.b (.b (.b (vg 10) (.b (.b (.b (.b (vg 38) (vg 49)) (vg 18)) (vg 11)) (vg 12))) (vg 7)) (vg 4)) (.b (.b (vg 8) (vg 6)) (.b (.b (.b (.b (.b (vg 24) (vg 13)) (.b (vg 14) (vg 16))) (.b (.b (.b (vg 17) (vg 19)) (.b (vg 26) (.b (vg 23) (vg 29)))) (vg 15))) (vg 9)) (vg 5)))) (vg 2)) (.b (.b (vg 3) (vg 1)) (vg 0)))
def qbt:HT Nat:=(.b (.l 1) (.b (.l 2) (.l 0)))
def dka:Rd Arg:=dzrj qbr
def tH:Rd (Option (Arg×Bool)):=dzrj ((.b (.b (.l (qj (λa=>some (a,false)) dka)) (.l (qj (λa=>some (a,true)) dka))) (.l (yt none))))
def dkck:Rd Arg:=dzrj ((.b (.l dka) (.l (qj (λk=>.c (.fn k (.of k) [])) (dzrk 512)))))
def dklp:Rd (Nat×Nat×Arg):=zk (qj (λa b=>(a,b)) (dw zpu)) (zk (qj (λa b=>(a,b)) (dw zpu)) dka)
def dkn:Rd Nat:=dw zpu
def dkp:Rd Pa:=dw dkpa
def oO {α:Type} (a:Rd α) (r:List α):Rd (List α):=dzrb (dw qbs) λk=>Nat.rec (yt r) (λ_ ih=>zk (qj List.cons a) ih) k
def dkwo:Rd WO:=dzrj (.b (.l (zk (yt WO.alloc) (dw zbt))) (.l (zk (zk (zk (zk (yt WO.fq) dkn) dkn) (dw zbt)) (oO dklp []))))
def dkro:Rd RO:=dzrj (.b (.b (.l (zk (qj RO.q dkp) (zk (yt PO.mv) dka))) (.l (qj RO.s (zk (yt PO.mv) dka)))) (.b (.b (.b (.b (.b (.l (zk (zk (qj RO.w (dw tF)) tH) (zk (zk (zk (zk (yt WO.fq) dkn) dkn) (dw zbt)) (oO dklp [])))) (.b (.l (qj RO.s (zk (zk (yt PO.build) (dw zbt)) (oO dklp [])))) (.b (.l (zk (zk (qj RO.p (dw tF)) tH) (zk (zk (zk (yt PO.aB) dkn) dka) dka))) (.l (qj RO.s (zk (zk (yt PO.sidx) dka) dka)))))) (.l (zk (zk (qj RO.w (dw tF)) tH) (zk (zk (zk (yt WO.store) dkn) dka) dka)))) (.b (.b (.b (.l (zk (zk (qj RO.w (dw tF)) tH) (zk (zk (zk (zk (yt WO.app) dkn) dkn) dka) dka))) (.l (zk (qj RO.q dkp) (zk (zk (zk (yt PO.pick) dka) dka) dka)))) (.l (zk (zk (qj RO.p (dw tF)) tH) (zk (yt PO.mv) dka)))) (.b (.l (zk (zk (qj RO.w (dw tF)) tH) (zk (yt WO.alloc) (dw zbt)))) (.b (.l (zk (qj RO.q dkp) (zk (yt PO.len) dka))) (.b (.b (.l (qj RO.s (zk (yt PO.not) dka))) (.b (.b (.b (.l (qj RO.s (zk (zk (zk (yt PO.part) dkn) (dw dkon)) dka))) (.l (zk (zk (qj RO.w (dw tF)) tH) (zk (zk (zk (zk (zk (yt WO.appm) dkn) dkn) (dw zbt)) dka) dka)))) (.b (.l (zk (zk (qj RO.w (dw tF)) tH) (zk (zk (zk (zk (yt WO.appq) dkn) dkn) dka) dka))) (.l (zk (zk (qj RO.w (dw tF)) tH) (zk (zk (zk (zk (yt WO.zny) (dw dkkk)) dka) dka) dka))))) (.l (zk (zk (qj RO.w (dw tF)) tH) (zk (zk (zk (zk (zk (yt WO.af) dkn) dkn) (dw zbt)) dka) dka))))) (.b (.l (zk (zk (qj RO.p (dw tF)) tH) (zk (yt PO.len) dka))) (.l (zk (qj RO.q dkp) (zk (yt PO.load) dka))))))))) (.b (.b (.l (qj RO.s (zk (zk (zk (yt PO.aB) dkn) dka) dka))) (.l (qj RO.s (zk (zk (yt PO.zaj) dkn) dka)))) (.b (.l (qj RO.s (zk (zk (yt PO.zm) dkn) dka))) (.b (.b (.l (zk (zk (qj RO.p (dw tF)) tH) (zk (yt PO.load) dka))) (.l (qj RO.s (zk (zk (zk (yt PO.pick) dka) dka) dka)))) (.l (qj RO.s (zk (yt PO.len) dka))))))) (.b (.b (.b (.l (zk (qj RO.q dkp) (zk (zk (dw zpv) dka) dka))) (.b (.b (.b (.b (.l (qj RO.s (zk (zk (zk (yt PO.fn) dkn) dkp) (oO dka [])))) (.l (zk (zk (qj RO.p (dw tF)) tH) (zk (zk (yt PO.zm) dkn) dka)))) (.b (.b (.b (.l (zk (zk (qj RO.p (dw tF)) tH) (zk (zk (zk (zk (yt PO.zf2) dkn) dkn) dka) dka))) (.l (zk (zk (qj RO.p (dw tF)) tH) (zk (zk (zk (yt PO.fn) dkn) dkp) (oO dka []))))) (.b (.l (zk (zk (qj RO.p (dw tF)) tH) (zk (zk (yt PO.sidx) dka) dka))) (.l (zk (qj RO.q dkp) (zk (zk (zk (yt PO.part) dkn) (dw dkon)) dka))))) (.l (zk (zk (qj RO.p (dw tF)) tH) (zk (yt PO.not) dka))))) (.b (.b (.l (qj RO.s (zk (zk (zk (yt PO.zak) dka) (dw dkoa)) (dw dkoa)))) (.b (.b (.l (qj RO.s (zk (zk (zk (zk (zk (zk (yt PO.aslice) dkn) dkn) dka) (dw dkoa)) (dw dkoa)) (dw dkoa)))) (.b (.l (zk (zk (qj RO.w (dw tF)) tH) (yt WO.zam))) (.l (qj RO.s (zk (yt PO.b2s) dka))))) (.l (zk (qj RO.q dkp) (zk (yt PO.not) dka))))) (.l (zk (zk (qj RO.p (dw tF)) tH) (zk (zk (yt PO.zaj) dkn) dka))))) (.l (zk (zk (qj RO.w (dw tF)) tH) (zk (yt WO.box) dka))))) (.l (qj RO.s (zk (zk (dw zpv) dka) dka)))) (.b (.l (zk (zk (qj RO.w (dw tF)) tH) (zk (zk (yt WO.call) dkck) (oO dka [])))) (.b (.b (.l (qj RO.s (zk (zk (yt PO.ext) dkn) dka))) (.b (.l (zk (zk (qj RO.p (dw tF)) tH) (zk (zk (dw zpv) dka) dka))) (.b (.b (.b (.l (qj RO.s (zk (zk (zk (zk (yt PO.zf2) dkn) dkn) dka) dka))) (.b (.l (zk (zk (qj RO.p (dw tF)) tH) (zk (yt PO.slen) dka))) (.l (qj RO.s (zk (zk (zk (yt PO.zal) (dw dkbo)) dka) (oO dka [])))))) (.l (qj RO.s (zk (zk (yt PO.conv) (dw dkik)) dka)))) (.b (.l (qj RO.s (zk (yt PO.slen) dka))) (.b (.b (.l (qj RO.s (zk (yt PO.neg) dka))) (.b (.l (qj RO.s (zk (yt PO.capz) dka))) (.b (.l (zk (zk (qj RO.p (dw tF)) tH) (zk (zk (zk (yt PO.zak) dka) (dw dkoa)) (dw dkoa)))) (.l (qj RO.s (zk (zk (zk (zk (zk (yt PO.look) (dw dkkk)) (dw dkav)) (dw dkbo)) dka) dka)))))) (.l (qj RO.s (zk (zk (zk (zk (zk (yt PO.slice) dkn) dka) (dw dkoa)) (dw dkoa)) (dw dkoa))))))))) (.l (qj RO.s (zk (yt PO.load) dka))))))))
def dkl:Rd (List RO):=oO dkro []
def dI (R:List IR) (n:Nat):IR:=(Nat.rec (motive:=λ_=>Rd IR) (yt .skip) (λ_ q=>dzrj (.b (.b (.b (.l (yt IR.skip)) (.l (zk (zk (zk (yt IR.cond) dka) q) q))) (.b (.b (.l (qj IR.reg dkl)) (.l (zk (qj IR.nk (oO dkwo [])) (oO (zk (qj (λa b=>(a,b)) dkro) (zk (qj (λa b=>(a,b)) dkn) (oO dkwo []))) [])))) (.l (yt IR.ret)))) (.b (.b (.b (.l (zk (zk (yt IR.block) dkn) q)) (.b (.l (zk (yt IR.exit) dkn)) (.b (.l (qj (λk=>dzlg R k) (dw qbt))) (.b (.b (.l (zk (yt IR.bad) dkn)) (.l (zk (zk (zk (zk (yt IR.rf) dka) (oO dkp [])) q) q))) (.l (zk (yt IR.loop) q)))))) (.l (zk (qj IR.seq q) q))) (.l (zk (qj (λl=>IR.seq (.reg l)) dkl) q))))) 200 n).1
def dA (r:List RO) (n:Nat):List RO:=(oO dkro r n).1
end
end Go.Ev
namespace Go.Ev
open Go Go.Proofs
set_option maxRecDepth 100000
noncomputable section
abbrev aT0:Arg:=.t (.of 0)
abbrev aT1:Arg:=.t (.of 1)
abbrev aT2:Arg:=.t (.of 2)
abbrev aT3:Arg:=.t (.of 3)
abbrev aT4:Arg:=.t (.of 4)
abbrev aT5:Arg:=.t (.of 5)
abbrev aT6:Arg:=.t (.of 6)
abbrev aT7:Arg:=.t (.of 7)
abbrev aT8:Arg:=.t (.of 8)
abbrev aT9:Arg:=.t (.of 9)
abbrev aT10:Arg:=.t (.of 10)
abbrev aT11:Arg:=.t (.of 11)
abbrev aT12:Arg:=.t (.of 12)
abbrev aT13:Arg:=.t (.of 13)
abbrev aT14:Arg:=.t (.of 14)
abbrev aT15:Arg:=.t (.of 15)
abbrev aT16:Arg:=.t (.of 16)
abbrev aT17:Arg:=.t (.of 17)
abbrev aT18:Arg:=.t (.of 18)
abbrev aT21:Arg:=.t (.of 21)
abbrev aT22:Arg:=.t (.of 22)
abbrev aT23:Arg:=.t (.of 23)
abbrev aT24:Arg:=.t (.of 24)
abbrev aT25:Arg:=.t (.of 25)
abbrev aT26:Arg:=.t (.of 26)
abbrev aT27:Arg:=.t (.of 27)
abbrev aT28:Arg:=.t (.of 28)
abbrev aT30:Arg:=.t (.of 30)
abbrev aT31:Arg:=.t (.of 31)
abbrev aT35:Arg:=.t (.of 35)
abbrev aS0:Arg:=.s 0
abbrev aS1:Arg:=.s 1
abbrev aS2:Arg:=.s 2
abbrev aS3:Arg:=.s 3
abbrev aS4:Arg:=.s 4
abbrev aS5:Arg:=.s 5
abbrev aS8:Arg:=.s 8
abbrev aS11:Arg:=.s 11
abbrev aC0:Arg:=.c (I 0)
abbrev aC1:Arg:=.c (I 1)
abbrev aC16:Arg:=.c (I 16)
abbrev aC32:Arg:=.c (I 32)
abbrev F4.fr:=fr14
def F4.t0:IR:=.reg (dA [] 447872718)
def F4.t1:IR:=.reg (dA [] 4269096230299440352622772881459486551718114724)
def F4.t2:IR:=.reg (dA [] 13378526)
def F4.t6:IR:=.reg (dA [] 33296921962872133531056)
def F4.t7:IR:=.reg (dA [] 135900824727626986362123684)
def F4.t8:IR:=.reg (dA [] 4144810659177)
def F4.t9:IR:=.reg (dA [] 761667546)
def F4.zve (r:List RO):List RO:=dA r 13453174
def F4.r7_3:List RO:=F4.zve []
def F4.zvd (r:List RO):List RO:=dA r 1791260260989650299640
def F4.r7_2:List RO:=F4.zvd F4.r7_3
def F4.zvc (r:List RO):List RO:=dA r 41615329723108630596357418390916524356
def F4.r7_1:List RO:=F4.zvc F4.r7_2
def F4.zvb (r:List RO):List RO:=dA r 69079122082330369283382009004806340
def F4.r7_0:List RO:=F4.zvb F4.r7_1
def F4.t10:IR:=.reg F4.r7_0
def F4.zvf (r:List RO):List RO:=dA r 1683334892080718
def F4.r8_2:List RO:=F4.zvf []
def F4.zfr (r:List RO):List RO:=dA r 3627248829
def F4.r8_1:List RO:=F4.zfr F4.r8_2
def F4.zfq (r:List RO):List RO:=dA r 12508542684348929754707491796
def F4.r8_0:List RO:=F4.zfq F4.r8_1
def F4.t14:IR:=.reg F4.r8_0
def F4.t19:IR:=.reg (dA [] 8459702446660312)
def F4.zno (r:List RO):List RO:=dA r 233638052949582
def F4.zpw:List RO:=F4.zno []
def F4.znn (r:List RO):List RO:=dA r 69602344769581539145410346708
def F4.znm:List RO:=F4.znn F4.zpw
def F4.t20:IR:=.reg F4.znm
def F4.t21:IR:=.reg [iQo 8 (.mv aC16)]
def F4.t24:IR:=.reg (dA [] 1523654618)
def F4.zns (r:List RO):List RO:=dA r 13453174
def F4.zvy:List RO:=F4.zns []
def F4.znr (r:List RO):List RO:=dA r 25455338
def F4.zvz:List RO:=F4.znr F4.zvy
def F4.znq (r:List RO):List RO:=dA r 138158244164660738559727143591848644
def F4.znp:List RO:=F4.znq F4.zvz
def F4.t25:IR:=.reg F4.znp
def F4.znx (r:List RO):List RO:=dA r 13453174
def F4.zv0:List RO:=F4.znx []
def F4.znw (r:List RO):List RO:=dA r 213534863097577
def F4.zv1:List RO:=F4.znw F4.zv0
def F4.znv (r:List RO):List RO:=dA r 14771715773
def F4.zv2:List RO:=F4.znv F4.zv1
def F4.znu (r:List RO):List RO:=dA r 73003655920407423335900264813519568
def F4.znt:List RO:=F4.znu F4.zv2
def F4.t29:IR:=.reg F4.znt
def F4.t31:IR:=.seq (.seq F4.t24 (.cond aT13 (.seq F4.t25 .ret) .skip)) (.seq F4.t29 .ret)
def F4.t36:IR:=.seq F4.t8 (.seq (.seq F4.t9 (.cond aT10 (.seq F4.t10 .ret) .skip)) (.seq (.seq F4.t14 (.cond aT11 (.seq (.reg (dA [] 13669)) .ret) .skip)) (.seq F4.t19 (.seq (.seq F4.t20 (.cond aT12 F4.t21 .skip)) F4.t31))))
def F4.t40:IR:=.seq F4.t0 (.seq (.seq F4.t1 (.cond aT9 (.seq F4.t2 .ret) .skip)) (.seq F4.t6 (.seq F4.t7 F4.t36)))
def F4.b0:IR:=F4.t40
def F4.res:List RV:=[.t (.of 3)]
def F4:Fn:={ params:=[(.of 0),(.of 1)],res:=F4.res,body:=F4.b0,init:=in14 }
theorem F4.ok:fnA Tryz.prog Tryz.f4 [0,1,2,4,5,6,7,8,9,17,33,63,74,76]=some F4:=by kernel_rfl
abbrev F16.fr:=fr9
def F16.b4:IR:=dI [] 391505382656160940715923234917330001693703337361282462381205059265854365
def F16.b3:IR:=(.loop F16.b4)
def F16.g2 (X3:IR):IR:=(.block 0 X3)
def F16.b2:IR:=F16.g2 F16.b3
def F16.b9:IR:=dI [] 1768727
def F16.b0:IR:=dI [F16.b2,F16.b9] 36893002449137927039173182860056800660470881083
def F16.res:List RV:=[.t (.of 4)]
def F16:Fn:={ params:=[(.of 0),(.of 1),(.of 2)],res:=F16.res,body:=F16.b0,init:=in9 }
theorem F16.ok:fnA Tryz.prog Tryz.f16 [0,1,2,3,6,7,12,17,27]=some F16:=by kernel_rfl
abbrev F17.fr:=fr29
def F17.b0:IR:=dI [] 1902227002815722704785397652721720389079142582691023985555675690195850297475719565915345753322158473542466116271614794736074136907208894662463280558751322275324093029752078420801503917595447744310671073278672208158427058263211845080387693605319944949694126270013021795521066040672173314592307248857758162658257312182430578580974096350203222513254865795938725073561874999341698765574918038887808101996037065822073253088321512215447775837366323576395412862321313592235168700192489887967351290561665591225375007440343602298419896048247807159209419581912745580212793837071737111387200074383235455269526483057954121182938231935281443495009116912527020915122141887301409373115988698493240868622271234945511055950504716579934291970609001605843971631183712236743745972849325789139800686298854117413113975396041160434634430298317154747491003861644616902437877678921970985144013547790433648503137762777190619923341435662985170854458337867733917201208796786780692009954766487729101078793209363667735116293948794649438603676459688306322768440705068780908191334323950397862673597927611647795583359044646643076272382576933360986720880140313630021057746666837017605407270361644550368780441471018814965246350217321426319906446760318519169997439038591293800202700947163964515628951175724277034046499708740654947872324691148252232707435607179874930276611735
def F17.res:List RV:=[.t (.of 0)]
def F17:Fn:={ params:=[],res:=F17.res,body:=F17.b0,init:=in29 }
theorem F17.ok:fnA Tryz.prog Tryz.f17 [0,1,2,3,4,5,6,7,8,9,10,11,12,13,14,15,16,17,18,19,20,21,22,23,24,25,26,127,165]=some F17:=by kernel_rfl
abbrev F18.fr:=fr11
def F18.b4:IR:=dI [] 13021586582319675600617106143152104490322810061569294796511471402997879
def F18.b3:IR:=(.loop F18.b4)
def F18.g2 (X3:IR):IR:=(.block 0 X3)
def F18.b2:IR:=F18.g2 F18.b3
def F18.b9:IR:=dI [] 103959
def F18.b0:IR:=dI [F18.b2,F18.b9] 75152381510194457506125994412119715064291907696105283978108270682676781685088879052767235606707147565925139504059494575149769622003641147
def F18.res:List RV:=[.t (.of 2)]
def F18:Fn:={ params:=[(.of 0)],res:=F18.res,body:=F18.b0,init:=in11 }
theorem F18.ok:fnA Tryz.prog Tryz.f18 [0,1,2,3,4,5,18,22,23,24,30]=some F18:=by kernel_rfl
abbrev F19.fr:=fr14
def F19.b16:IR:=dI [] 472879077652735027352500805275035533937517961445238939997665218466738124337124899343669048814253782009393911497824725
def F19.b17:IR:=dI [] 7613574930
def F19.b12:IR:=dI [F19.b16,F19.b17] 4374277016260158154320088200148801957205638569458705624227004604303582774380167598616333066925825170016916398185353593779764509
def F19.b11:IR:=(.loop F19.b12)
def F19.g10 (X11:IR):IR:=(.block 2 X11)
def F19.b10:IR:=F19.g10 F19.b11
def F19.b18:IR:=dI [] 9215088426855574767652337537940847315
def F19.b19:IR:=dI [] 1659294482
def F19.b5:IR:=dI [F19.b10,F19.b18,F19.b19] 41315518641882088010703155444999874937697164885836975038563117706002048228170653
def F19.b4:IR:=(.loop F19.b5)
def F19.g3 (X4:IR):IR:=(.block 0 X4)
def F19.b3:IR:=F19.g3 F19.b4
def F19.b20:IR:=dI [] 103959
def F19.b0:IR:=dI [F19.b3,F19.b20] 28947634245936143934849646518113981724232673697545287311285881414733517978360705110854084785834740411195
def F19.res:List RV:=[.t (.of 2)]
def F19:Fn:={ params:=[(.of 0)],res:=F19.res,body:=F19.b0,init:=in14 }
theorem F19.ok:fnA Tryz.prog Tryz.f19 [0,1,2,3,4,5,13,17,22,32,36,52,66,72]=some F19:=by kernel_rfl
abbrev F20.fr:=fr14
def F20.b0:IR:=dI [] 19387243947538488766893327233823407834482960265614163036467282840961619750615992800294556716877966577024135128371052122507627159719622321228679799064407419396548296512499631320706273004630475940998950056376447009795812409260691390395093573044848167897438318211427543144200846326913900982776381632142585919436724765400316535968615327242365474305750453162079511900319906071517551401995809733433304589339454358411406234402686572402437069822217619956851810985872970567023774312148616551335130032955
def F20.res:List RV:=[.t (.of 2)]
def F20:Fn:={ params:=[(.of 0)],res:=F20.res,body:=F20.b0,init:=in14 }
theorem F20.ok:fnA Tryz.prog Tryz.f20 [0,1,2,3,4,5,6,7,20,23,24,25,26,71]=some F20:=by kernel_rfl
abbrev F22.fr:=fr4
def F22.t0:IR:=.reg (dA [] 222427854)
def F22.t1:IR:=.reg (dA [] 18970502459172604792783977833)
def F22.t2:IR:=.reg (dA [] 6789)
def F22.t6:IR:=.reg (dA [] 4168955118728751545616009928700714985256356)
def F22.t9:IR:=.seq F22.t0 (.seq (.seq F22.t1 (.cond aT3 (.seq F22.t2 .ret) .skip)) (.seq F22.t6 .ret))
def F22.b0:IR:=F22.t9
def F22.res:List RV:=[.t (.of 2)]
def F22:Fn:={ params:=[(.of 0)],res:=F22.res,body:=F22.b0,init:=in4 }
theorem F22.ok:fnA Tryz.prog Tryz.f22 [0,1,2,5]=some F22:=by kernel_rfl
abbrev F23.fr:=fr6
def F23.t0:IR:=.reg (dA [] 391353988505)
def F23.t1:IR:=.reg (dA [] 571389459817)
def F23.t2:IR:=.reg (dA [] 95274522)
def F23.t3:IR:=.reg (dA [] 26165297)
def F23.t8:IR:=.reg (dA [] 30901340930640957842808589055396)
def F23.t11:IR:=.seq F23.t0 (.seq (.seq F23.t1 (.seq F23.t2 (.cond aT5 (.seq F23.t3 .ret) .skip))) (.seq F23.t8 .ret))
def F23.b0:IR:=F23.t11
def F23.res:List RV:=[.t (.of 2),.t (.of 3)]
def F23:Fn:={ params:=[(.of 0)],res:=F23.res,body:=F23.b0,init:=in6 }
theorem F23.ok:fnA Tryz.prog Tryz.f23 [0,1,2,3,4,8]=some F23:=by kernel_rfl
abbrev F24.fr:=fr14
def F24.t0:IR:=.reg (dA [] 774124076441)
def F24.t1:IR:=.reg (dA [] 3956246700694232)
def F24.t2:IR:=.reg (dA [] 381128570)
def F24.t3:IR:=.reg (dA [] 71132913)
def F24.t8:IR:=.reg (dA [] 51980984710749559512)
def F24.t9:IR:=.reg (dA [] 533339826)
def F24.t13:IR:=.reg [iQo 6 (.mv (.c .zb))]
def F24.t14:IR:=.reg (dA [] 222759629694910804030010812)
def F24.t15:IR:=.reg (dA [] 4273721629)
def F24.t17:IR:=.reg (dA [] 121311487785)
def F24.t18:IR:=.reg (dA [] 14283463852727215852523687613982592438080896)
def F24.t21:IR:=.reg (dA [] 555179374)
def F24.t24:IR:=.seq F24.t15 (.seq (.cond aT13 .skip (.exit 0)) (.seq (.block 1 (.seq F24.t17 F24.t18)) F24.t21))
def F24.t25:IR:=.loop F24.t24
def F24.t28:IR:=.reg (dA [] 47211185)
def F24.t34:IR:=.seq F24.t0 (.seq (.seq F24.t1 (.seq F24.t2 (.cond aT8 (.seq F24.t3 .ret) .skip))) (.seq (.seq F24.t8 (.cond aT9 (.seq F24.t9 .ret) .skip)) (.seq F24.t13 (.seq (.seq F24.t14 (.block 0 F24.t25)) (.seq F24.t28 .ret)))))
def F24.b0:IR:=F24.t34
def F24.res:List RV:=[.t (.of 3),.t (.of 4)]
def F24:Fn:={ params:=[(.of 0),(.of 1)],res:=F24.res,body:=F24.b0,init:=in14 }
theorem F24.ok:fnA Tryz.prog Tryz.f24 [0,1,2,4,5,6,7,9,14,19,22,23,24,25]=some F24:=by kernel_rfl
abbrev F25.fr:=fr7
def F25.t0:IR:=.reg (dA [] 6789)
def F25.t1:IR:=.reg (dA [] 482165728204764)
def F25.t2:IR:=.reg (dA [] 6789)
def F25.t6:IR:=.reg [iQo 3 (.mv aC0)]
def F25.t7:IR:=.reg (dA [] 1914598453864)
def F25.t10:IR:=dI [] 137868644113031833027123729778500366924767290
def F25.t11:IR:=.reg (dA [] 6789)
def F25.t16:IR:=.reg (dA [] 103705905)
def F25.t18:IR:=.seq (.seq F25.t7 (.cond aT5 .skip (.exit 0))) (.seq (.block 1 (.seq F25.t10 (.cond aT6 (.seq F25.t11 .ret) .skip))) F25.t16)
def F25.t19:IR:=.loop F25.t18
def F25.t22:IR:=.reg (dA [] 24453)
def F25.t26:IR:=.seq F25.t0 (.seq (.seq F25.t1 (.cond aT4 (.seq F25.t2 .ret) .skip)) (.seq (.seq F25.t6 (.block 0 F25.t19)) (.seq F25.t22 .ret)))
def F25.b0:IR:=F25.t26
def F25.res:List RV:=[.t (.of 2)]
def F25:Fn:={ params:=[(.of 0),(.of 1)],res:=F25.res,body:=F25.b0,init:=in7 }
theorem F25.ok:fnA Tryz.prog Tryz.f25 [0,1,4,5,10,14,26]=some F25:=by kernel_rfl
abbrev F26.fr:=fr10
def F26.t0:IR:=.reg (dA [] 255982286)
def F26.t1:IR:=.reg [iQo 3 (.mv (.c .zb))]
def F26.t2:IR:=.reg [iQo 4 (.mv aC1)]
def F26.t3:IR:=.reg (dA [] 31450908940259548)
def F26.t6:IR:=.reg (dA [] 3956255287442136)
def F26.t7:IR:=.reg (dA [] 22377609510249)
def F26.t8:IR:=.reg [iQo 7 (.mv aC0)]
def F26.t9:IR:=.reg (dA [] 15350680641896)
def F26.t12:IR:=dI [] 79901950716242025336334742956060331356337298797620966152160058
def F26.t14:IR:=.reg (dA [] 945608881)
def F26.t16:IR:=.seq (.seq F26.t9 (.cond aT9 .skip (.exit 2))) (.seq (.block 3 F26.t12) F26.t14)
def F26.t17:IR:=.loop F26.t16
def F26.t20:IR:=.reg (dA [] 901241821488635307228)
def F26.t25:IR:=.reg (dA [] 70151217)
def F26.t27:IR:=.seq (.seq F26.t3 (.cond aT8 .skip (.exit 0))) (.seq (.block 1 (.seq F26.t6 (.seq F26.t7 (.seq (.seq F26.t8 (.block 2 F26.t17)) F26.t20)))) F26.t25)
def F26.t28:IR:=.loop F26.t27
def F26.t31:IR:=.reg (dA [] 3067844965926436689108)
def F26.t35:IR:=.seq F26.t0 (.seq F26.t1 (.seq (.seq F26.t2 (.block 0 F26.t28)) (.seq F26.t31 .ret)))
def F26.b0:IR:=F26.t35
def F26.res:List RV:=[.t (.of 2)]
def F26:Fn:={ params:=[(.of 0)],res:=F26.res,body:=F26.b0,init:=in10 }
theorem F26.ok:fnA Tryz.prog Tryz.f26 [0,1,2,3,4,5,6,7,12,23]=some F26:=by kernel_rfl
abbrev F27.fr:=fr5
def F27.b0:IR:=dI [] 4525232275341130350223651058372684512533007563579
def F27.res:List RV:=[.t (.of 3)]
def F27:Fn:={ params:=[(.of 0),(.of 1)],res:=F27.res,body:=F27.b0,init:=in5 }
theorem F27.ok:fnA Tryz.prog Tryz.f27 [0,1,2,4,9]=some F27:=by kernel_rfl
abbrev F28.fr:=fr4
def F28.b0:IR:=dI [] 7850694421580364754422797433659
def F28.res:List RV:=[.t (.of 3)]
def F28:Fn:={ params:=[(.of 0),(.of 1)],res:=F28.res,body:=F28.b0,init:=in4 }
theorem F28.ok:fnA Tryz.prog Tryz.f28 [0,1,2,4]=some F28:=by kernel_rfl
abbrev F29.fr:=fr7
def F29.t0:IR:=.reg (dA [] 6789)
def F29.t1:IR:=.reg (dA [] 482165728204764)
def F29.t2:IR:=.reg (dA [] 6789)
def F29.t6:IR:=.reg [iQo 3 (.mv aC0)]
def F29.t7:IR:=.reg (dA [] 1914598453864)
def F29.t10:IR:=dI [] 130233397462202231539758487296688778042
def F29.t11:IR:=.reg (dA [] 6789)
def F29.t16:IR:=.reg (dA [] 103705905)
def F29.t18:IR:=.seq (.seq F29.t7 (.cond aT5 .skip (.exit 0))) (.seq (.block 1 (.seq F29.t10 (.cond aT6 (.seq F29.t11 .ret) .skip))) F29.t16)
def F29.t19:IR:=.loop F29.t18
def F29.t22:IR:=.reg (dA [] 24453)
def F29.t26:IR:=.seq F29.t0 (.seq (.seq F29.t1 (.cond aT4 (.seq F29.t2 .ret) .skip)) (.seq (.seq F29.t6 (.block 0 F29.t19)) (.seq F29.t22 .ret)))
def F29.b0:IR:=F29.t26
def F29.res:List RV:=[.t (.of 2)]
def F29:Fn:={ params:=[(.of 0),(.of 1)],res:=F29.res,body:=F29.b0,init:=in7 }
theorem F29.ok:fnA Tryz.prog Tryz.f29 [0,1,4,5,10,14,25]=some F29:=by kernel_rfl
abbrev F30.fr:=fr8
def F30.t0:IR:=.reg (dA [] 514981582)
def F30.t1:IR:=.reg [iQo 4 (.mv (.c .zb))]
def F30.t2:IR:=.reg (dA [] 1945846123881)
def F30.t3:IR:=.reg [iQo 6 (.mv aC0)]
def F30.t4:IR:=.reg (dA [] 7688458986856)
def F30.zva (r:List RO):List RO:=iQm 4 0::r
def F30.r5_4:List RO:=F30.zva []
def F30.zu9 (r:List RO):List RO:=dA r 1323990093
def F30.r5_3:List RO:=F30.zu9 F30.r5_4
def F30.zu8 (r:List RO):List RO:=dA r 27917837
def F30.r5_2:List RO:=F30.zu8 F30.r5_3
def F30.zu7 (r:List RO):List RO:=dA r 11179514232617
def F30.r5_1:List RO:=F30.zu7 F30.r5_2
def F30.zu6 (r:List RO):List RO:=dA r 3071306203017619038416
def F30.r5_0:List RO:=F30.zu6 F30.r5_1
def F30.t7:IR:=.reg F30.r5_0
def F30.t9:IR:=.reg (dA [] 341629617)
def F30.t11:IR:=.seq (.seq F30.t4 (.cond aT7 .skip (.exit 0))) (.seq (.block 1 F30.t7) F30.t9)
def F30.t12:IR:=.loop F30.t11
def F30.t15:IR:=.reg (dA [] 6170)
def F30.t20:IR:=.seq F30.t0 (.seq F30.t1 (.seq F30.t2 (.seq (.seq F30.t3 (.block 0 F30.t12)) (.seq F30.t15 .ret))))
def F30.b0:IR:=F30.t20
def F30.res:List RV:=[.t (.of 3)]
def F30:Fn:={ params:=[(.of 0),(.of 1)],res:=F30.res,body:=F30.b0,init:=in8 }
theorem F30.ok:fnA Tryz.prog Tryz.f30 [0,1,2,4,5,6,7,13]=some F30:=by kernel_rfl
abbrev F31.fr:=fr28
def F31.b0:IR:=dI [] 13074591559661576594030612557418123884181258038288151421411366246163970429498299323271196918187027010847491338107425027825570132615162657307421042274793110930277718940899309535783453551209462710030846409773896777139495295981061281797183501948670463446271408361208281795628342742815949412101055996791544865101792584301793442203488751186914648058091961510092051002541322011076834572340523082134620321034618551724165699715435416504207619563282979413782680369104722676610197208306331754954226255997897170709632271559587168088493968863456257330783739420974431373222902709818039679387029569253472507825096322081569395855149845356770762652323961896842339272439537627128409575716823149646710248559442797483470607975
def F31.res:List RV:=[.t (.of 2),.t (.of 3)]
def F31:Fn:={ params:=[(.of 0)],res:=F31.res,body:=F31.b0,init:=in28 }
theorem F31.ok:fnA Tryz.prog Tryz.f31 [0,1,2,3,4,5,6,7,8,9,10,12,13,14,15,16,17,21,24,25,26,27,39,40,41,42,65,76]=some F31:=by kernel_rfl
abbrev F33.fr:=fr32
def F33.b0:IR:=dI [] 376457639500371418214024227867253924013705968824287342629847293494805716245772780281131905717404563538534553851607507203204597461676522030733877725656892207648302461753466800676809421663432661214103587755188909517413492172144348656580407462584982761152014800827666372653206867589097589447443926360471036227864103710425065577249102903880817667823348997179324608167974062689969095953922030408043832161850728574490871551397393901955889242630374236437425099115896495395357573138677986328244103794855324521282448269277104915840782612533590972543462237860660542255129681494276567610648781071998349936102092603257868592758319837331457440775857446051662875414678235001237546749605209751319439649957163964333857457728206916156402782247771374747430897280973597291586997214560484358443345540568147458474509919203344410647676548886032470171699669622147314804159465546859708045842023
def F33.res:List RV:=[.t (.of 2),.t (.of 3)]
def F33:Fn:={ params:=[(.of 0)],res:=F33.res,body:=F33.b0,init:=in32 }
theorem F33.ok:fnA Tryz.prog Tryz.f33 [0,1,2,3,4,5,6,7,9,10,12,14,15,16,17,21,26,29,30,31,32,38,39,40,41,53,54,55,56,75,97,120]=some F33:=by kernel_rfl
abbrev F35.fr:=fr5
def F35.t0:IR:=.reg (dA [] 893646542)
def F35.zf0 (r:List RO):List RO:=iQm 4 0::r
def F35.r1_3:List RO:=F35.zf0 []
def F35.zfz (r:List RO):List RO:=dA r 18955253531856159893204602218955911826964403684
def F35.r1_2:List RO:=F35.zfz F35.r1_3
def F35.sM (r:List RO):List RO:=dA r 1418158379025617
def F35.aH:List RO:=F35.sM F35.r1_2
def F35.sK (r:List RO):List RO:=dA r 122868482109643480
def F35.tJ:List RO:=F35.sK F35.aH
def F35.t1:IR:=.reg F35.tJ
def F35.t3:IR:=.seq F35.t0 (.seq F35.t1 .ret)
def F35.b0:IR:=F35.t3
def F35.res:List RV:=[.t (.of 4)]
def F35:Fn:={ params:=[(.of 0),(.of 1),(.of 2)],res:=F35.res,body:=F35.b0,init:=in5 }
theorem F35.ok:fnA Tryz.prog Tryz.f35 [0,1,2,3,6]=some F35:=by kernel_rfl
abbrev F36.fr:=fr5
def F36.t0:IR:=.reg [iQo 1 (.mv (.c .zb))]
def F36.t1:IR:=.reg [iQo 2 (.mv (.c .zb))]
def F36.t2:IR:=.reg [iQo 3 (.mv aC0)]
def F36.t3:IR:=.reg (dA [] 1049033009)
def F36.t6:IR:=.reg (dA [] 16896463411888393320)
def F36.t8:IR:=.reg (dA [] 103705905)
def F36.t10:IR:=.seq (.seq F36.t3 (.cond aT4 .skip (.exit 0))) (.seq (.block 1 F36.t6) F36.t8)
def F36.t11:IR:=.loop F36.t10
def F36.t14:IR:=.reg (dA [] 18714)
def F36.t18:IR:=.seq F36.t0 (.seq F36.t1 (.seq (.seq F36.t2 (.block 0 F36.t11)) (.seq F36.t14 .ret)))
def F36.b0:IR:=F36.t18
def F36.res:List RV:=[.t (.of 1)]
def F36:Fn:={ params:=[(.of 0)],res:=F36.res,body:=F36.b0,init:=in5 }
theorem F36.ok:fnA Tryz.prog Tryz.f36 [0,2,3,4,7]=some F36:=by kernel_rfl
abbrev F39.fr:=fr2
def F39.t0:IR:=.reg (dA [] 27429)
def F39.t1:IR:=.reg (dA [] 156737187313)
def F39.t3:IR:=.seq F39.t0 (.seq F39.t1 .ret)
def F39.b0:IR:=F39.t3
def F39.res:List RV:=[.t (.of 1)]
def F39:Fn:={ params:=[(.of 0)],res:=F39.res,body:=F39.b0,init:=in2 }
theorem F39.ok:fnA Tryz.prog Tryz.f39 [0,2]=some F39:=by kernel_rfl
abbrev F40.fr:=fr14
def F40.t0:IR:=.reg [iQo 2 (.mv (.c (.str [])))]
def F40.t1:IR:=.reg (dA [] 17457394632220705686133075884)
def F40.t2:IR:=.reg (dA [] 149153438288607133644317714348)
def F40.t3:IR:=.reg (dA [] 59787911766519272)
def F40.t4:IR:=.reg (dA [] 146549802229409956250977965856054940512)
def F40.t17:IR:=.seq F40.t0 (.seq F40.t1 (.seq F40.t2 (.seq (.seq F40.t3 (.cond aT13 (.seq F40.t4 .ret) .skip)) (.seq (.reg (dA [] 2185965368195764060493132942002102398892)) (.seq (.reg (dA [] 15941532597072002081839742179367588915116)) (.seq (.nk [] [((.s (.zm 2 aT9)),0,[]),((.s (.zm 2 aT12)),0,[]),((.s (.zm 2 aT11)),1,[]),((.s (.zm 2 aT10)),1,[]),((.s (.zm 2 aT10)),3,[]),((.s (.zm 2 aT12)),3,[]),((iCa 132 [aS5,aS4]),0,[]),((iCa 132 [aS4,aS3]),0,[]),((iCa 131 [aS1,aS0]),0,[]),((iCa 132 [aS4,aS3]),0,[]),((iCa 130 [aS1,aS0]),0,[]),((iQm 2 0),0,[])]) .ret))))))
def F40.b0:IR:=F40.t17
def F40.res:List RV:=[.t (.of 2)]
def F40:Fn:={ params:=[(.of 0),(.of 1)],res:=F40.res,body:=F40.b0,init:=in14 }
theorem F40.ok:fnA Tryz.prog Tryz.f40 [0,1,4,5,6,7,8,9,10,11,12,13,14,30]=some F40:=by kernel_rfl
abbrev F41.fr:=fr14
def F41.t0:IR:=.reg [iQo 2 (.mv (.c (.str [])))]
def F41.t1:IR:=.reg (dA [] 17457394632220705686133075884)
def F41.t2:IR:=.reg (dA [] 149153438288607133644317714348)
def F41.t3:IR:=.reg (dA [] 59787911766519272)
def F41.t4:IR:=.reg (dA [] 16660783584189851790304452)
def F41.t17:IR:=.seq F41.t0 (.seq F41.t1 (.seq F41.t2 (.seq (.seq F41.t3 (.cond aT13 (.seq F41.t4 .ret) .skip)) (.seq (.reg (dA [] 2185965368195764060493132942002102398892)) (.seq (.reg (dA [] 15941532597072002081839742179367588915116)) (.seq (.nk [] [((.s (.zm 2 aT9)),0,[]),((.s (.zm 2 aT11)),0,[]),((.s (.zm 2 aT10)),1,[]),((.s (.zm 2 aT12)),1,[]),((iCa 132 [aS3,aS2]),0,[]),((iCa 132 [aS2,aS1]),0,[]),((iCa 130 [aS1,aS0]),0,[]),((iQm 2 0),0,[])]) .ret))))))
def F41.b0:IR:=F41.t17
def F41.res:List RV:=[.t (.of 2)]
def F41:Fn:={ params:=[(.of 0),(.of 1)],res:=F41.res,body:=F41.b0,init:=in14 }
theorem F41.ok:fnA Tryz.prog Tryz.f41 [0,1,4,5,6,7,8,9,10,11,12,13,14,30]=some F41:=by kernel_rfl
abbrev F42.fr:=fr2
def F42.t0:IR:=.reg [iQo 1 (.mv (.c (.str [])))]
def F42.t1:IR:=.reg (dA [] 81805295753083880)
def F42.t3:IR:=.seq F42.t0 (.seq F42.t1 .ret)
def F42.b0:IR:=F42.t3
def F42.res:List RV:=[.t (.of 1)]
def F42:Fn:={ params:=[(.of 0)],res:=F42.res,body:=F42.b0,init:=in2 }
theorem F42.ok:fnA Tryz.prog Tryz.f42 [0,2]=some F42:=by kernel_rfl
abbrev F43.fr:=fr7
def F43.b0:IR:=dI [] 735482527867340191099493305479180202356482831268724581732588697889288630564455
def F43.res:List RV:=[.t (.of 3),.t (.of 4)]
def F43:Fn:={ params:=[(.of 0),(.of 1)],res:=F43.res,body:=F43.b0,init:=in7 }
theorem F43.ok:fnA Tryz.prog Tryz.f43 [0,1,2,4,5,6,11]=some F43:=by kernel_rfl
abbrev F47.fr:=fr6
def F47.b0:IR:=dI [] 4511136007149401120402196353947981067173082386398084048851826358103401947248516641450382077483480195100907833208130239120460561241703
def F47.res:List RV:=[.t (.of 2),.t (.of 3)]
def F47:Fn:={ params:=[(.of 0)],res:=F47.res,body:=F47.b0,init:=in6 }
theorem F47.ok:fnA Tryz.prog Tryz.f47 [0,1,2,3,4,14]=some F47:=by kernel_rfl
abbrev F48.fr:=fr7
def F48.b0:IR:=dI [] 359122114737604191716547674569997575235462612542355164328188555426951853671
def F48.res:List RV:=[.t (.of 3),.t (.of 4)]
def F48:Fn:={ params:=[(.of 0),(.of 1)],res:=F48.res,body:=F48.b0,init:=in7 }
theorem F48.ok:fnA Tryz.prog Tryz.f48 [0,1,2,4,5,6,11]=some F48:=by kernel_rfl
abbrev F49.fr:=fr7
def F49.b4:IR:=dI [] 11452029630129661249209404136050983637289039760357892045601360888572816952020253
def F49.b3:IR:=(.loop F49.b4)
def F49.g2 (X3:IR):IR:=(.block 0 X3)
def F49.b2:IR:=F49.g2 F49.b3
def F49.b9:IR:=dI [] 884247
def F49.b0:IR:=dI [F49.b2,F49.b9] 2198993776501951073993668452241304906263
def F49.res:List RV:=[.t (.of 2)]
def F49:Fn:={ params:=[(.of 0),(.of 1)],res:=F49.res,body:=F49.b0,init:=in7 }
theorem F49.ok:fnA Tryz.prog Tryz.f49 [0,1,4,5,10,14,25]=some F49:=by kernel_rfl
abbrev F51.fr:=fr13
def F51.b0:IR:=dI [] 9189379724691368954850300284132860416134462391707398440009732139195920838006731089622775429662966538294480216558363123501844732749222013042894059758399463182672353272672211841135337604457398600286791324657953911568455423591
def F51.res:List RV:=[.t (.of 2),.t (.of 3)]
def F51:Fn:={ params:=[(.of 0)],res:=F51.res,body:=F51.b0,init:=in13 }
theorem F51.ok:fnA Tryz.prog Tryz.f51 [0,1,2,3,4,5,7,11,13,14,15,16,27]=some F51:=by kernel_rfl
abbrev F53.fr:=fr9
def F53.b0:IR:=dI [] 2394262988422671361965290526512123311706477424983942084030998000084257369097446051198076728801387913846721345105360612452375987153431
def F53.res:List RV:=[.t (.of 2)]
def F53:Fn:={ params:=[(.of 0),(.of 1)],res:=F53.res,body:=F53.b0,init:=in9 }
theorem F53.ok:fnA Tryz.prog Tryz.f53 [0,1,4,5,10,12,13,14,24]=some F53:=by kernel_rfl
abbrev F59.fr:=fr7
def F59.b3:IR:=dI [] 420375703680417431680418719535166922091148671017569062448160781542504787632159645
def F59.b2:IR:=(.loop F59.b3)
def F59.g1 (X2:IR):IR:=(.block 0 X2)
def F59.b1:IR:=F59.g1 F59.b2
def F59.b8:IR:=dI [] 811115
def F59.b0:IR:=dI [F59.b1,F59.b8] 1953099287556471564794683
def F59.res:List RV:=[.t (.of 3)]
def F59:Fn:={ params:=[(.of 0),(.of 1)],res:=F59.res,body:=F59.b0,init:=in7 }
theorem F59.ok:fnA Tryz.prog Tryz.f59 [0,1,2,4,5,6,11]=some F59:=by kernel_rfl
abbrev F60.fr:=fr8
def F60.b3:IR:=dI [] 821046296247069482214883204921669252031371361166411258470407134633513739730205
def F60.b2:IR:=(.loop F60.b3)
def F60.g1 (X2:IR):IR:=(.block 0 X2)
def F60.b1:IR:=F60.g1 F60.b2
def F60.b8:IR:=dI [] 6876567
def F60.b0:IR:=dI [F60.b1,F60.b8] 134215961040718884591648068529027899
def F60.res:List RV:=[.t (.of 3)]
def F60:Fn:={ params:=[(.of 0),(.of 1)],res:=F60.res,body:=F60.b0,init:=in8 }
theorem F60.ok:fnA Tryz.prog Tryz.f60 [0,1,2,4,5,6,13,23]=some F60:=by kernel_rfl
abbrev F65.fr:=fr7
def F65.b0:IR:=dI [] 1300300974199926473584326278271539142074832526404514828416093024561433175578765837727994173978650598144412802715831739772587876762160291641885587995035
def F65.res:List RV:=[.cell (.of 2) (some 2),.t (.of 3)]
def F65:Fn:={ params:=[(.of 0),(.of 1)],res:=F65.res,body:=F65.b0,init:=in7 }
theorem F65.ok:fnA Tryz.prog Tryz.f65 [0,1,4,5,6,7,20]=some F65:=by kernel_rfl
abbrev F69.fr:=fr10
def F69.b0:IR:=dI [] 22178316996256651765997833968327170589933014545843102587318454027892107625100402382699614259868838413297963909082032866286456147789851908632604837702297935263039352084954127467272141126975149274267371026092139001163160328522751017746332707694111131
def F69.res:List RV:=[.cell (.of 1) (some 2),.t (.of 2)]
def F69:Fn:={ params:=[(.of 0)],res:=F69.res,body:=F69.b0,init:=in10 }
theorem F69.ok:fnA Tryz.prog Tryz.f69 [0,2,3,4,5,6,11,14,15,16]=some F69:=by kernel_rfl
abbrev F78.fr:=fr7
def F78.b0:IR:=dI [] 359122115132525285473637124687190179049226733738256502335573463910082147943
def F78.res:List RV:=[.t (.of 3),.t (.of 4)]
def F78:Fn:={ params:=[(.of 0),(.of 1)],res:=F78.res,body:=F78.b0,init:=in7 }
theorem F78.ok:fnA Tryz.prog Tryz.f78 [0,1,2,4,5,6,11]=some F78:=by kernel_rfl
abbrev F85.fr:=fr1
def F85.b0:IR:=dI [] 41818526135354295211130447034771414668477088995917923828289222295
def F85.res:List RV:=[.t (.of 0)]
def F85:Fn:={ params:=[],res:=F85.res,body:=F85.b0,init:=in1 }
theorem F85.ok:fnA Tryz.prog Tryz.f85 [0]=some F85:=by kernel_rfl
abbrev F86.fr:=fr8
def F86.b3:IR:=dI [] 21740677314568027406233277597506659851298842425498260599
def F86.b2:IR:=(.loop F86.b3)
def F86.g1 (X2:IR):IR:=(.block 0 X2)
def F86.b1:IR:=F86.g1 F86.b2
def F86.b8:IR:=dI [] 416919
def F86.b0:IR:=dI [F86.b1,F86.b8] 7629293839064642706583
def F86.res:List RV:=[.t (.of 1)]
def F86:Fn:={ params:=[(.of 0)],res:=F86.res,body:=F86.b0,init:=in8 }
theorem F86.ok:fnA Tryz.prog Tryz.f86 [0,2,4,5,6,7,8,12]=some F86:=by kernel_rfl
abbrev F87.fr:=fr6
def F87.b0:IR:=dI [] 290925368214109196104891299738640071150941048387175
def F87.res:List RV:=[.t (.of 5)]
def F87:Fn:={ params:=[(.of 0),(.of 1),(.of 2)],res:=F87.res,body:=F87.b0,init:=in6 }
theorem F87.ok:fnA Tryz.prog Tryz.f87 [0,1,2,3,4,6]=some F87:=by kernel_rfl
abbrev F88.fr:=fr4
def F88.b0:IR:=dI [] 479426699675445740131863
def F88.res:List RV:=[.t (.of 2)]
def F88:Fn:={ params:=[(.of 0),(.of 1)],res:=F88.res,body:=F88.b0,init:=in4 }
theorem F88.ok:fnA Tryz.prog Tryz.f88 [0,1,4,5]=some F88:=by kernel_rfl
abbrev F89.fr:=fr14
def F89.b4:IR:=dI [] 20443378906469669171068392368124873864873897039688447025417105547462515169589553795736321564333201648460494110316612956681516596357617269514137172863531361867642408437597859768809561468202894631157828822555919479
def F89.b3:IR:=(.loop F89.b4)
def F89.g2 (X3:IR):IR:=(.block 0 X3)
def F89.b2:IR:=F89.g2 F89.b3
def F89.b9:IR:=dI [] 4425949537119090576136280975161468716479969939
def F89.b0:IR:=dI [F89.b2,F89.b9] 47889863371933660082796931909078751375870091108751217657359427085241807224175419
def F89.res:List RV:=[.t (.of 3)]
def F89:Fn:={ params:=[(.of 0),(.of 1)],res:=F89.res,body:=F89.b0,init:=in14 }
theorem F89.ok:fnA Tryz.prog Tryz.f89 [0,1,2,4,5,6,7,8,16,17,18,19,20,48]=some F89:=by kernel_rfl
abbrev F90.fr:=fr6
def F90.b3:IR:=dI [] 1271430697404958048975596808271304605563256054164767596647173405
def F90.b2:IR:=(.loop F90.b3)
def F90.g1 (X2:IR):IR:=(.block 0 X2)
def F90.b1:IR:=F90.g1 F90.b2
def F90.b8:IR:=dI [] 223767
def F90.b0:IR:=dI [F90.b1,F90.b8] 56842656868887
def F90.res:List RV:=[.t (.of 2)]
def F90:Fn:={ params:=[(.of 0),(.of 1)],res:=F90.res,body:=F90.b0,init:=in6 }
theorem F90.ok:fnA Tryz.prog Tryz.f90 [0,1,4,5,9,17]=some F90:=by kernel_rfl
abbrev F91.fr:=fr4
def F91.b0:IR:=dI [] 15701129870688353465733830933307
def F91.res:List RV:=[.t (.of 3)]
def F91:Fn:={ params:=[(.of 0),(.of 1)],res:=F91.res,body:=F91.b0,init:=in4 }
theorem F91.ok:fnA Tryz.prog Tryz.f91 [0,1,3,4]=some F91:=by kernel_rfl
abbrev F92.fr:=fr10
def F92.t0:IR:=.reg (dA [] 5782930)
def F92.t1:IR:=.reg [iQo 3 (.mv (.c .zb))]
def F92.t2:IR:=.reg (dA [] 1633944493793)
def F92.t3:IR:=.reg (dA [] 88469277)
def F92.t5:IR:=.reg (dA [] 2277891881)
def F92.t6:IR:=.reg (dA [] 278358339145242)
def F92.t11:IR:=.reg (dA [] 945200267573953341880296660)
def F92.t15:IR:=.reg (dA [] 59098478)
def F92.t18:IR:=.seq F92.t3 (.seq (.cond aT8 .skip (.exit 0)) (.seq (.block 1 (.seq F92.t5 (.seq (.seq F92.t6 (.cond aT9 (.seq (.reg (dA [] 19414418)) .ret) .skip)) F92.t11))) F92.t15))
def F92.t19:IR:=.loop F92.t18
def F92.t22:IR:=.reg (dA [] 23105841)
def F92.t26:IR:=.seq F92.t0 (.seq F92.t1 (.seq (.seq F92.t2 (.block 0 F92.t19)) (.seq F92.t22 .ret)))
def F92.b0:IR:=F92.t26
def F92.res:List RV:=[.t (.of 1),.t (.of 2)]
def F92:Fn:={ params:=[(.of 0)],res:=F92.res,body:=F92.b0,init:=in10 }
theorem F92.ok:fnA Tryz.prog Tryz.f92 [0,2,3,4,6,7,8,9,10,14]=some F92:=by kernel_rfl
abbrev F93.fr:=fr36
def F93.t0:IR:=.reg (dA [] 49365252814)
def F93.t1:IR:=.reg (dA [] 13094569)
def F93.t2:IR:=.reg [iQo 4 (.mv (.c .zb))]
def F93.t3:IR:=.reg [iQo 5 (.mv (.c .zb))]
def F93.t4:IR:=.reg [iQo 6 (.mv aC1)]
def F93.t5:IR:=.reg (dA [] 251331722602261212)
def F93.t8:IR:=.reg (dA [] 543403679024391903913137348)
def F93.t9:IR:=dI [] 75088653130188994923068508354062437262931492817071074106
def F93.t10:IR:=.reg (dA [] 102359855777937441)
def F93.t11:IR:=.reg (dA [] 31708885277)
def F93.t13:IR:=.reg (dA [] 407769967517745422300)
def F93.t14:IR:=dI [] 1118853896174665299052532391653363498258912075834
def F93.t17:IR:=.reg (dA [] 6247169902)
def F93.t20:IR:=.seq F93.t11 (.seq (.cond aT21 .skip (.exit 2)) (.seq (.block 3 (.seq F93.t13 F93.t14)) F93.t17))
def F93.t21:IR:=.loop F93.t20
def F93.t24:IR:=.reg (dA [] 408726833)
def F93.zng (r:List RO):List RO:=dA r 962850794975394494
def F93.zpx:List RO:=F93.zng []
def F93.znf (r:List RO):List RO:=dA r 3635064683419293528533003932210191164165316
def F93.zne:List RO:=F93.znf F93.zpx
def F93.t25:IR:=.reg F93.zne
def F93.t28:IR:=.reg (dA [] 1634906929)
def F93.t30:IR:=.seq (.seq F93.t25 (.cond aT22 .skip (.exit 4))) (.block 5 F93.t28)
def F93.t31:IR:=.loop F93.t30
def F93.t33:IR:=.reg (dA [] 3074234778)
def F93.t36:IR:=.reg (dA [] 473163730548772586018572518096)
def F93.t37:IR:=.reg (dA [] 103483231451756449)
def F93.t38:IR:=.reg (dA [] 2056484027677)
def F93.t40:IR:=.reg (dA [] 17109538760489)
def F93.t41:IR:=.reg (dA [] 33391541066454366932579598288)
def F93.t44:IR:=.reg (dA [] 16789405550)
def F93.t47:IR:=.seq F93.t38 (.seq (.cond aT27 .skip (.exit 6)) (.seq (.block 7 (.seq F93.t40 F93.t41)) F93.t44))
def F93.t48:IR:=.loop F93.t47
def F93.t51:IR:=.reg (dA [] 39366656410162626496909180311258345949544832)
def F93.t61:IR:=.reg (dA [] 341629617)
def F93.t63:IR:=.seq (.seq F93.t5 (.cond aT17 .skip (.exit 0))) (.seq (.block 1 (.seq F93.t8 (.seq F93.t9 (.seq (.seq F93.t10 (.block 2 F93.t21)) (.seq F93.t24 (.seq (.block 4 F93.t31) (.seq (.seq F93.t33 (.cond aT23 (.exit 1) .skip)) (.seq F93.t36 (.seq (.seq F93.t37 (.block 6 F93.t48)) F93.t51))))))))) F93.t61)
def F93.t64:IR:=.loop F93.t63
def F93.t67:IR:=.reg (dA [] 11996365)
def F93.t68:IR:=.reg (dA [] 6187722738)
def F93.t69:IR:=.reg (dA [] 125507076980509)
def F93.t71:IR:=.reg (dA [] 2257498)
def F93.t72:IR:=.reg (dA [] 2020625780569841)
def F93.t75:IR:=.reg (dA [] 485680733489)
def F93.t76:IR:=.reg (dA [] 29487888415844099518520796)
def F93.t77:IR:=.reg (dA [] 7009195445368162873377)
def F93.t78:IR:=.reg (dA [] 147493819911453)
def F93.t80:IR:=.reg (dA [] 11651840897094990249087708)
def F93.t81:IR:=.reg (dA [] 8912394885526021021391337122481784900288931002208)
def F93.t84:IR:=.reg (dA [] 120136967534)
def F93.t87:IR:=.seq F93.t78 (.seq (.cond aT35 .skip (.exit 10)) (.seq (.block 11 (.seq F93.t80 F93.t81)) F93.t84))
def F93.t88:IR:=.loop F93.t87
def F93.t91:IR:=dI [] 3563745276858324442137234181554606468911849609021202367365788903835487479779048163718994440710962520171322
def F93.t98:IR:=.reg (dA [] 36117095790)
def F93.t101:IR:=.seq F93.t69 (.seq (.cond aT30 .skip (.exit 8)) (.seq (.block 9 (.seq F93.t71 (.seq (.seq F93.t72 (.cond aT31 (.exit 9) .skip)) (.seq F93.t75 (.seq F93.t76 (.seq (.seq F93.t77 (.block 10 F93.t88)) F93.t91)))))) F93.t98))
def F93.t102:IR:=.loop F93.t101
def F93.t105:IR:=.reg (dA [] 9500456630)
def F93.t113:IR:=.seq F93.t0 (.seq F93.t1 (.seq F93.t2 (.seq F93.t3 (.seq (.seq F93.t4 (.block 0 F93.t64)) (.seq F93.t67 (.seq (.seq F93.t68 (.block 8 F93.t102)) (.seq F93.t105 .ret)))))))
def F93.b0:IR:=F93.t113
def F93.res:List RV:=[.cell (.of 2) (some 2)]
def F93:Fn:={ params:=[(.of 0)],res:=F93.res,body:=F93.b0,init:=in36 }
theorem F93.ok:fnA Tryz.prog Tryz.f93 [0,1,2,3,4,5,6,7,8,9,10,12,13,14,15,16,17,24,43,44,45,46,72,76,84,85,86,87,106,107,108,112,119,120,121,122]=some F93:=by kernel_rfl
abbrev F94.fr:=fr4
def F94.b0:IR:=dI [] 14132101633667333248599415438490112783644481115382710272606168552421767467571741928597754477371
def F94.res:List RV:=[.t (.of 3)]
def F94:Fn:={ params:=[(.of 0),(.of 1)],res:=F94.res,body:=F94.b0,init:=in4 }
theorem F94.ok:fnA Tryz.prog Tryz.f94 [0,1,2,4]=some F94:=by kernel_rfl
abbrev F95.fr:=fr5
def F95.b0:IR:=dI [] 310804569749906718281433049915263044184493465280768046005051
def F95.res:List RV:=[.t (.of 3)]
def F95:Fn:={ params:=[(.of 0),(.of 1)],res:=F95.res,body:=F95.b0,init:=in5 }
theorem F95.ok:fnA Tryz.prog Tryz.f95 [0,1,2,4,5]=some F95:=by kernel_rfl
abbrev F96.fr:=fr2
def F96.t0:IR:=.reg (dA [] 79053)
def F96.t1:IR:=.reg (dA [] 65467331054274591720)
def F96.t3:IR:=.seq F96.t0 (.seq F96.t1 .ret)
def F96.b0:IR:=F96.t3
def F96.res:List RV:=[.cell (.of 1) (some 4)]
def F96:Fn:={ params:=[(.of 0)],res:=F96.res,body:=F96.b0,init:=in2 }
theorem F96.ok:fnA Tryz.prog Tryz.f96 [0,2]=some F96:=by kernel_rfl
abbrev F97.fr:=fr4
def F97.t0:IR:=.reg (dA [] 1312946894)
def F97.t1:IR:=.reg (dA [] 360096151734)
def F97.t2:IR:=.reg (dA [] 5903287229784)
def F97.t6:IR:=dI [] 36060894299024684250953485111458062801992540007258938
def F97.t9:IR:=.seq F97.t0 (.seq (.seq F97.t1 (.cond aT3 (.seq F97.t2 .ret) .skip)) (.seq F97.t6 .ret))
def F97.b0:IR:=F97.t9
def F97.res:List RV:=[.t (.of 2)]
def F97:Fn:={ params:=[(.of 0)],res:=F97.res,body:=F97.b0,init:=in4 }
theorem F97.ok:fnA Tryz.prog Tryz.f97 [0,1,2,4]=some F97:=by kernel_rfl
abbrev F98.fr:=fr7
def F98.t0:IR:=.reg (dA [] 514981582)
def F98.t1:IR:=.reg (dA [] 18289295082840)
def F98.t2:IR:=.reg [iQo 5 (.mv aC0)]
def F98.t3:IR:=.reg (dA [] 8685939802188799570525124)
def F98.t6:IR:=.reg (dA [] 829329253163319580459265698918205088)
def F98.t8:IR:=.reg (dA [] 475848433)
def F98.t10:IR:=.seq (.seq F98.t3 (.cond aT6 .skip (.exit 0))) (.seq (.block 1 F98.t6) F98.t8)
def F98.t11:IR:=.loop F98.t10
def F98.t14:IR:=.reg (dA [] 6170)
def F98.t18:IR:=.seq F98.t0 (.seq F98.t1 (.seq (.seq F98.t2 (.block 0 F98.t11)) (.seq F98.t14 .ret)))
def F98.b0:IR:=F98.t18
def F98.res:List RV:=[.t (.of 3)]
def F98:Fn:={ params:=[(.of 0),(.of 1)],res:=F98.res,body:=F98.b0,init:=in7 }
theorem F98.ok:fnA Tryz.prog Tryz.f98 [0,1,2,4,5,6,17]=some F98:=by kernel_rfl
abbrev F99.fr:=fr3
def F99.t0:IR:=.reg [iQo 2 (.mv (.c (.str [])))]
def F99.t1:IR:=.reg (dA [] 1948435394277795804)
def F99.t3:IR:=.seq F99.t0 (.seq F99.t1 .ret)
def F99.b0:IR:=F99.t3
def F99.res:List RV:=[.t (.of 2)]
def F99:Fn:={ params:=[(.of 0),(.of 1)],res:=F99.res,body:=F99.b0,init:=in3 }
theorem F99.ok:fnA Tryz.prog Tryz.f99 [0,1,4]=some F99:=by kernel_rfl
abbrev fT.fr:=fr3
def fT.t0:IR:=.reg [iQo 1 (.mv (.c .zb))]
def fT.t1:IR:=.reg (dA [] 20184703046744766416)
def fT.t2:IR:=.reg (dA [] 18714)
def fT.t5:IR:=.seq fT.t0 (.seq fT.t1 (.seq fT.t2 .ret))
def fT.b0:IR:=fT.t5
def fT.res:List RV:=[.t (.of 1)]
def fT:Fn:={ params:=[(.of 0)],res:=fT.res,body:=fT.b0,init:=in3 }
theorem fT.ok:fnA Tryz.prog Tryz.f100 [0,2,3]=some fT:=by kernel_rfl
abbrev zy.fr:=fr12
def zy.t0:IR:=.reg [iQo 2 (.mv (.c .zb))]
def zy.t1:IR:=.reg (dA [] 151473639383849465808)
def zy.t2:IR:=.reg [iQo 5 (.mv (.c .zb))]
def zy.t3:IR:=.reg [iQo 6 (.mv aC0)]
def zy.t4:IR:=.reg (dA [] 8506897073)
def zy.t7:IR:=.reg (dA [] 15805422852145)
def zy.t10:IR:=.reg (dA [] 60469927153)
def zy.t11:IR:=.reg (dA [] 2809875488137576)
def zy.t12:IR:=.reg [iQo 8 (.mv aC0)]
def zy.t13:IR:=.reg (dA [] 30645058330472)
def zy.t16:IR:=dI [] 83783273698992330236414248472411034066393266074391431222366489129786
def zy.t18:IR:=.reg (dA [] 2025439153)
def zy.t20:IR:=.seq (.seq zy.t13 (.cond aT11 .skip (.exit 2))) (.seq (.block 3 zy.t16) zy.t18)
def zy.t21:IR:=.loop zy.t20
def zy.t24:IR:=.reg (dA [] 4163666884412091587548)
def zy.t30:IR:=.reg (dA [] 341629617)
def zy.t32:IR:=.seq (.seq zy.t4 (.cond aT9 .skip (.exit 0))) (.seq (.block 1 (.seq (.seq zy.t7 (.cond aT10 (.exit 1) .skip)) (.seq zy.t10 (.seq zy.t11 (.seq (.seq zy.t12 (.block 2 zy.t21)) zy.t24))))) zy.t30)
def zy.t33:IR:=.loop zy.t32
def zy.t36:IR:=.reg (dA [] 697548529)
def zy.t41:IR:=.seq zy.t0 (.seq zy.t1 (.seq zy.t2 (.seq (.seq zy.t3 (.block 0 zy.t33)) (.seq zy.t36 .ret))))
def zy.b0:IR:=zy.t41
def zy.res:List RV:=[.t (.of 2)]
def zy:Fn:={ params:=[(.of 0),(.of 1)],res:=zy.res,body:=zy.b0,init:=in12 }
theorem zy.ok:fnA Tryz.prog Tryz.f101 [0,1,4,5,6,7,8,9,10,18,23,32]=some zy:=by kernel_rfl
end
end Go.Ev
