import Derived.Test.YtfgpjkchdelphaaGreatDoorEvC
import Derived.Test.YtfgpjkchdelphaaGreatDoorProg
import Derived.KernelRfl
set_option linter.unusedSimpArgs false
set_option linter.unusedVariables false
namespace Go.Ev
open Go
inductive HT (α:Type) where
  | l (x:α) | b (x y:HT α)
abbrev Rd (α:Type):=Nat->α×Nat
noncomputable section
abbrev zU:List AV:=[(.int .u8 0),(.int .u8 0),(.int .u8 0),(.int .u8 0),(.int .u8 0),(.int .u8 0),(.int .u8 0),(.int .u8 0),(.int .u8 0),(.int .u8 0),(.int .u8 0),(.int .u8 0),(.int .u8 0),(.int .u8 0),(.int .u8 0),(.int .u8 0),(.int .u8 0),(.int .u8 0),(.int .u8 0),(.int .u8 0),(.int .u8 0),(.int .u8 0),(.int .u8 0),(.int .u8 0),(.int .u8 0),(.int .u8 0),(.int .u8 0),(.int .u8 0),(.int .u8 0),(.int .u8 0),(.int .u8 0),(.int .u8 0),(.int .u8 0),(.int .u8 0),(.int .u8 0),(.int .u8 0),(.int .u8 0),(.int .u8 0),(.int .u8 0),(.int .u8 0),(.int .u8 0),(.int .u8 0),(.int .u8 0),(.int .u8 0),(.int .u8 0),(.int .u8 0),(.int .u8 0),(.int .u8 0),(.int .u8 0),(.int .u8 0),(.int .u8 0),(.int .u8 0),(.int .u8 0),(.int .u8 0),(.int .u8 0),(.int .u8 0),(.int .u8 0),(.int .u8 0),(.int .u8 0),(.int .u8 0),(.int .u8 0),(.int .u8 0),(.int .u8 0),(.int .u8 0),(.int .u8 0),(.int .u8 0),(.int .u8 0),(.int .u8 0),(.int .u8 0),(.int .u8 0),(.int .u8 0),(.int .u8 0),(.int .u8 0),(.int .u8 0),(.int .u8 0),(.int .u8 0),(.int .u8 0),(.int .u8 0),(.int .u8 0),(.int .u8 0),(.int .u8 0),(.int .u8 0),(.int .u8 0),(.int .u8 0),(.int .u8 0),(.int .u8 0),(.int .u8 0),(.int .u8 0),(.int .u8 0),(.int .u8 0),(.int .u8 0),(.int .u8 0),(.int .u8 0),(.int .u8 0),(.int .u8 0),(.int .u8 0),(.int .u8 0),(.int .u8 0),(.int .u8 0),(.int .u8 0),(.int .u8 0),(.int .u8 0),(.int .u8 0),(.int .u8 0),(.int .u8 0),(.int .u8 0),(.int .u8 0),(.int .u8 0),(.int .u8 0),(.int .u8 0),(.int .u8 0),(.int .u8 0),(.int .u8 0),(.int .u8 0),(.int .u8 0),(.int .u8 0),(.int .u8 0),(.int .u8 0),(.int .u8 0),(.int .u8 0),(.int .u8 0),(.int .u8 0),(.int .u8 0),(.int .u8 0),(.int .u8 0),(.int .u8 0),(.int .u8 0),(.int .u8 0)]
abbrev iSm (n:Nat):RO:=.s (.mv (.t (.of n)))
abbrev iQm (n m:Nat):RO:=.q (.of n) (.mv (.s m))
abbrev iQo (n:Nat) (o:PO):RO:=.q (.of n) o
abbrev iPf (n:Nat) (o:PO):RO:=.p .push (some (.s n,false)) o
abbrev iPt (n:Nat) (o:PO):RO:=.p .push (some (.s n,true)) o
abbrev iCa (n:Nat) (l:List Arg):RO:=.w .push none (.call (.c (.fn n (.of n) [])) l)
abbrev iWl (n:Nat) (o:WO):RO:=.w (.loc (.of n)) none o
abbrev iSr (l:List RO) (c:IR):IR:=.seq (.reg l) c
def fr1 (x0:AV):T AV:=(.n .e x0 .e)
def fr2 (x0 x1:AV):T AV:=(.n (.n .e x1 .e) x0 .e)
def fr3 (x0 x1 x2:AV):T AV:=(.n (.n .e x1 .e) x0 (.n .e x2 .e))
def fr4 (x0 x1 x2 x3:AV):T AV:=(.n (.n (.n .e x3 .e) x1 .e) x0 (.n .e x2 .e))
def fr5 (x0 x1 x2 x3 x4:AV):T AV:=(.n (.n (.n .e x3 .e) x1 .e) x0 (.n (.n .e x4 .e) x2 .e))
def fr6 (x0 x1 x2 x3 x4 x5:AV):T AV:=(.n (.n (.n .e x3 .e) x1 (.n .e x5 .e)) x0 (.n (.n .e x4 .e) x2 .e))
def fr7 (x0 x1 x2 x3 x4 x5 x6:AV):T AV:=(.n (.n (.n .e x3 .e) x1 (.n .e x5 .e)) x0 (.n (.n .e x4 .e) x2 (.n .e x6 .e)))
def fr8 (x0 x1 x2 x3 x4 x5 x6 x7:AV):T AV:=(.n (.n (.n (.n .e x7 .e) x3 .e) x1 (.n .e x5 .e)) x0 (.n (.n .e x4 .e) x2 (.n .e x6 .e)))
def fr9 (x0 x1 x2 x3 x4 x5 x6 x7 x8:AV):T AV:=(.n (.n (.n (.n .e x7 .e) x3 .e) x1 (.n .e x5 .e)) x0 (.n (.n (.n .e x8 .e) x4 .e) x2 (.n .e x6 .e)))
def fr10 (x0 x1 x2 x3 x4 x5 x6 x7 x8 x9:AV):T AV:=(.n (.n (.n (.n .e x7 .e) x3 .e) x1 (.n (.n .e x9 .e) x5 .e)) x0 (.n (.n (.n .e x8 .e) x4 .e) x2 (.n .e x6 .e)))
def fr11 (x0 x1 x2 x3 x4 x5 x6 x7 x8 x9 x10:AV):T AV:=(.n (.n (.n (.n .e x7 .e) x3 .e) x1 (.n (.n .e x9 .e) x5 .e)) x0 (.n (.n (.n .e x8 .e) x4 .e) x2 (.n (.n .e x10 .e) x6 .e)))
def fr12 (x0 x1 x2 x3 x4 x5 x6 x7 x8 x9 x10 x11:AV):T AV:=(.n (.n (.n (.n .e x7 .e) x3 (.n .e x11 .e)) x1 (.n (.n .e x9 .e) x5 .e)) x0 (.n (.n (.n .e x8 .e) x4 .e) x2 (.n (.n .e x10 .e) x6 .e)))
def fr13 (x0 x1 x2 x3 x4 x5 x6 x7 x8 x9 x10 x11 x12:AV):T AV:=(.n (.n (.n (.n .e x7 .e) x3 (.n .e x11 .e)) x1 (.n (.n .e x9 .e) x5 .e)) x0 (.n (.n (.n .e x8 .e) x4 (.n .e x12 .e)) x2 (.n (.n .e x10 .e) x6 .e)))
def fr14 (x0 x1 x2 x3 x4 x5 x6 x7 x8 x9 x10 x11 x12 x13:AV):T AV:=(.n (.n (.n (.n .e x7 .e) x3 (.n .e x11 .e)) x1 (.n (.n .e x9 .e) x5 (.n .e x13 .e))) x0 (.n (.n (.n .e x8 .e) x4 (.n .e x12 .e)) x2 (.n (.n .e x10 .e) x6 .e)))
def fr15 (x0 x1 x2 x3 x4 x5 x6 x7 x8 x9 x10 x11 x12 x13 x14:AV):T AV:=(.n (.n (.n (.n .e x7 .e) x3 (.n .e x11 .e)) x1 (.n (.n .e x9 .e) x5 (.n .e x13 .e))) x0 (.n (.n (.n .e x8 .e) x4 (.n .e x12 .e)) x2 (.n (.n .e x10 .e) x6 (.n .e x14 .e))))
def fr18 (x0 x1 x2 x3 x4 x5 x6 x7 x8 x9 x10 x11 x12 x13 x14 x15 x16 x17:AV):T AV:=(.n (.n (.n (.n (.n .e x15 .e) x7 .e) x3 (.n .e x11 .e)) x1 (.n (.n (.n .e x17 .e) x9 .e) x5 (.n .e x13 .e))) x0 (.n (.n (.n (.n .e x16 .e) x8 .e) x4 (.n .e x12 .e)) x2 (.n (.n .e x10 .e) x6 (.n .e x14 .e))))
def fr19 (x0 x1 x2 x3 x4 x5 x6 x7 x8 x9 x10 x11 x12 x13 x14 x15 x16 x17 x18:AV):T AV:=(.n (.n (.n (.n (.n .e x15 .e) x7 .e) x3 (.n .e x11 .e)) x1 (.n (.n (.n .e x17 .e) x9 .e) x5 (.n .e x13 .e))) x0 (.n (.n (.n (.n .e x16 .e) x8 .e) x4 (.n .e x12 .e)) x2 (.n (.n (.n .e x18 .e) x10 .e) x6 (.n .e x14 .e))))
def fr21 (x0 x1 x2 x3 x4 x5 x6 x7 x8 x9 x10 x11 x12 x13 x14 x15 x16 x17 x18 x19 x20:AV):T AV:=(.n (.n (.n (.n (.n .e x15 .e) x7 .e) x3 (.n (.n .e x19 .e) x11 .e)) x1 (.n (.n (.n .e x17 .e) x9 .e) x5 (.n .e x13 .e))) x0 (.n (.n (.n (.n .e x16 .e) x8 .e) x4 (.n (.n .e x20 .e) x12 .e)) x2 (.n (.n (.n .e x18 .e) x10 .e) x6 (.n .e x14 .e))))
def fr23 (x0 x1 x2 x3 x4 x5 x6 x7 x8 x9 x10 x11 x12 x13 x14 x15 x16 x17 x18 x19 x20 x21 x22:AV):T AV:=(.n (.n (.n (.n (.n .e x15 .e) x7 .e) x3 (.n (.n .e x19 .e) x11 .e)) x1 (.n (.n (.n .e x17 .e) x9 .e) x5 (.n (.n .e x21 .e) x13 .e))) x0 (.n (.n (.n (.n .e x16 .e) x8 .e) x4 (.n (.n .e x20 .e) x12 .e)) x2 (.n (.n (.n .e x18 .e) x10 .e) x6 (.n (.n .e x22 .e) x14 .e))))
def fr28 (x0 x1 x2 x3 x4 x5 x6 x7 x8 x9 x10 x11 x12 x13 x14 x15 x16 x17 x18 x19 x20 x21 x22 x23 x24 x25 x26 x27:AV):T AV:=(.n (.n (.n (.n (.n .e x15 .e) x7 (.n .e x23 .e)) x3 (.n (.n .e x19 .e) x11 (.n .e x27 .e))) x1 (.n (.n (.n .e x17 .e) x9 (.n .e x25 .e)) x5 (.n (.n .e x21 .e) x13 .e))) x0 (.n (.n (.n (.n .e x16 .e) x8 (.n .e x24 .e)) x4 (.n (.n .e x20 .e) x12 .e)) x2 (.n (.n (.n .e x18 .e) x10 (.n .e x26 .e)) x6 (.n (.n .e x22 .e) x14 .e))))
def fr29 (x0 x1 x2 x3 x4 x5 x6 x7 x8 x9 x10 x11 x12 x13 x14 x15 x16 x17 x18 x19 x20 x21 x22 x23 x24 x25 x26 x27 x28:AV):T AV:=(.n (.n (.n (.n (.n .e x15 .e) x7 (.n .e x23 .e)) x3 (.n (.n .e x19 .e) x11 (.n .e x27 .e))) x1 (.n (.n (.n .e x17 .e) x9 (.n .e x25 .e)) x5 (.n (.n .e x21 .e) x13 .e))) x0 (.n (.n (.n (.n .e x16 .e) x8 (.n .e x24 .e)) x4 (.n (.n .e x20 .e) x12 (.n .e x28 .e))) x2 (.n (.n (.n .e x18 .e) x10 (.n .e x26 .e)) x6 (.n (.n .e x22 .e) x14 .e))))
def fr32 (x0 x1 x2 x3 x4 x5 x6 x7 x8 x9 x10 x11 x12 x13 x14 x15 x16 x17 x18 x19 x20 x21 x22 x23 x24 x25 x26 x27 x28 x29 x30 x31:AV):T AV:=(.n (.n (.n (.n (.n (.n .e x31 .e) x15 .e) x7 (.n .e x23 .e)) x3 (.n (.n .e x19 .e) x11 (.n .e x27 .e))) x1 (.n (.n (.n .e x17 .e) x9 (.n .e x25 .e)) x5 (.n (.n .e x21 .e) x13 (.n .e x29 .e)))) x0 (.n (.n (.n (.n .e x16 .e) x8 (.n .e x24 .e)) x4 (.n (.n .e x20 .e) x12 (.n .e x28 .e))) x2 (.n (.n (.n .e x18 .e) x10 (.n .e x26 .e)) x6 (.n (.n .e x22 .e) x14 (.n .e x30 .e)))))
def fr36 (x0 x1 x2 x3 x4 x5 x6 x7 x8 x9 x10 x11 x12 x13 x14 x15 x16 x17 x18 x19 x20 x21 x22 x23 x24 x25 x26 x27 x28 x29 x30 x31 x32 x33 x34 x35:AV):T AV:=(.n (.n (.n (.n (.n (.n .e x31 .e) x15 .e) x7 (.n .e x23 .e)) x3 (.n (.n (.n .e x35 .e) x19 .e) x11 (.n .e x27 .e))) x1 (.n (.n (.n (.n .e x33 .e) x17 .e) x9 (.n .e x25 .e)) x5 (.n (.n .e x21 .e) x13 (.n .e x29 .e)))) x0 (.n (.n (.n (.n (.n .e x32 .e) x16 .e) x8 (.n .e x24 .e)) x4 (.n (.n .e x20 .e) x12 (.n .e x28 .e))) x2 (.n (.n (.n (.n .e x34 .e) x18 .e) x10 (.n .e x26 .e)) x6 (.n (.n .e x22 .e) x14 (.n .e x30 .e)))))
abbrev in1:T AV:=fr1 .u
abbrev in2:T AV:=fr2 .u .u
abbrev in3:T AV:=fr3 .u .u .u
abbrev in4:T AV:=fr4 .u .u .u .u
abbrev in5:T AV:=fr5 .u .u .u .u .u
abbrev in6:T AV:=fr6 .u .u .u .u .u .u
abbrev in7:T AV:=fr7 .u .u .u .u .u .u .u
abbrev in8:T AV:=fr8 .u .u .u .u .u .u .u .u
abbrev in9:T AV:=fr9 .u .u .u .u .u .u .u .u .u
abbrev in10:T AV:=fr10 .u .u .u .u .u .u .u .u .u .u
abbrev in11:T AV:=fr11 .u .u .u .u .u .u .u .u .u .u .u
abbrev in12:T AV:=fr12 .u .u .u .u .u .u .u .u .u .u .u .u
abbrev in13:T AV:=fr13 .u .u .u .u .u .u .u .u .u .u .u .u .u
abbrev in14:T AV:=fr14 .u .u .u .u .u .u .u .u .u .u .u .u .u .u
abbrev in15:T AV:=fr15 .u .u .u .u .u .u .u .u .u .u .u .u .u .u .u
abbrev in18:T AV:=fr18 .u .u .u .u .u .u .u .u .u .u .u .u .u .u .u .u .u .u
abbrev in19:T AV:=fr19 .u .u .u .u .u .u .u .u .u .u .u .u .u .u .u .u .u .u .u
abbrev in21:T AV:=fr21 .u .u .u .u .u .u .u .u .u .u .u .u .u .u .u .u .u .u .u .u .u
abbrev in23:T AV:=fr23 .u .u .u .u .u .u .u .u .u .u .u .u .u .u .u .u .u .u .u .u .u .u .u
abbrev in28:T AV:=fr28 .u .u .u .u .u .u .u .u .u .u .u .u .u .u .u .u .u .u .u .u .u .u .u .u .u .u .u .u
abbrev in29:T AV:=fr29 .u .u .u .u .u .u .u .u .u .u .u .u .u .u .u .u .u .u .u .u .u .u .u .u .u .u .u .u .u
abbrev in32:T AV:=fr32 .u .u .u .u .u .u .u .u .u .u .u .u .u .u .u .u .u .u .u .u .u .u .u .u .u .u .u .u .u .u .u .u
abbrev in36:T AV:=fr36 .u .u .u .u .u .u .u .u .u .u .u .u .u .u .u .u .u .u .u .u .u .u .u .u .u .u .u .u .u .u .u .u .u .u .u .u
def pz (n:Nat):HT Pa:=.l (.of n)
def wu (n:Nat):HT Nat:=.l n
def yj {α:Type} (x:α):Rd α:=λn=>(x,n)
def aY (n:Nat):HT (Rd Arg):=.l (yj (.s n))
def ru (n:Nat):HT (Rd Arg):=.l (yj (.t (.of n)))
def tC (n:Nat):HT (Rd Arg):=.l (yj (.c (I n)))
def dzrk (b:Nat):Rd Nat:=λn=>(Nat.mod n b,Nat.div n b)
def dzrb {α β:Type} (a:Rd α) (f:α->Rd β):Rd β:=λn=>Prod.rec (λx m=>f x m) (a n)
def zh {α β:Type} (f:Rd (α->β)) (a:Rd α):Rd β:=λn=>Prod.rec (λg m=>Prod.rec (λx k=>(g x,k)) (a m)) (f n)
def qa {α β:Type} (g:α->β) (a:Rd α):Rd β:=λn=>Prod.rec (λx k=>(g x,k)) (a n)
def xq {α:Type} (t:HT α):Rd α:=HT.rec (λx n=>(x,n)) (λ_ _ f g n=>bif Nat.beq (Nat.mod n 2) 0 then f (Nat.div n 2) else g (Nat.div n 2)) t
def dzrj {α:Type} (t:HT (Rd α)):Rd α:=dzrb (xq t) (λf=>f)
def dzlg (l:List IR):Nat->IR:=List.rec (λ_=>.skip) (λx _ ih k=>Nat.rec x (λm _=>ih m) k) l
def zzq:HT (Rd Arg):=(.b (aY 0) (.b (.b (.b (.b (ru 2) (.b (.b (.b (.b (ru 20) (.b (.l (yj (.c (.str [115,101,109,105,109,97,103,105,99])))) (tC 7))) (.b (.b (aY 13) (ru 21)) (.b (ru 22) (ru 23)))) (aY 5)) (.b (ru 11) (.b (tC 2) (.b (.b (.b (.l (yj (.c (.int .u64 4294967295)))) (.l (yj (.c (.str [47]))))) (.l (yj (.c (.int .u32 1))))) (tC 3)))))) (.b (ru 3) (.b (.b (.b (aY 8) (.b (ru 15) (.b (.l (yj (.c (.int .u32 2)))) (.l (yj (.c (.str []))))))) (.b (.b (.b (aY 12) (ru 17)) (.b (ru 24) (.l (qa Arg.s (dzrk 64))))) (ru 13))) (ru 7)))) (.b (.b (.b (.l (yj (.c (.bool false)))) (.b (.b (.b (.l (yj (.c (.str [48,48,48,49,48,50,48,51,48,52,48,53,48,54,48,55,48,56,48,57,49,48,49,49,49,50,49,51,49,52,49,53,49,54,49,55,49,56,49,57,50,48,50,49,50,50,50,51,50,52,50,53,50,54,50,55,50,56,50,57,51,48,51,49,51,50,51,51,51,52,51,53,51,54,51,55,51,56,51,57,52,48,52,49,52,50,52,51,52,52,52,53,52,54,52,55,52,56,52,57,53,48,53,49,53,50,53,51,53,52,53,53,53,54,53,55,53,56,53,57,54,48,54,49,54,50,54,51,54,52,54,53,54,54,54,55,54,56,54,57,55,48,55,49,55,50,55,51,55,52,55,53,55,54,55,55,55,56,55,57,56,48,56,49,56,50,56,51,56,52,56,53,56,54,56,55,56,56,56,57,57,48,57,49,57,50,57,51,57,52,57,53,57,54,57,55,57,56,57,57])))) (aY 9)) (.b (.b (.b (.b (tC 999999999) (.l (yj (.c (.int .u64 100000000))))) (.l (yj (.c (.int .u32 10000))))) (.l (yj (.c (.int .u32 100))))) (.b (.l (yj (.c (.str [48])))) (tC 16)))) (ru 10))) (.b (ru 6) (.b (.b (.b (.b (tC 4) (aY 11)) (.b (.b (.l (yj (.c (.int .u64 0)))) (.l (yj (.c (.int .u8 45))))) (.b (ru 25) (ru 29)))) (.b (.b (.b (ru 34) (.b (.l (yj (.c (.int .u64 16)))) (.l (yj (.c (.int .u64 8)))))) (.b (.b (.l (yj (.c (.str [0,1,2,2,3,3,3,3,4,4,4,4,4,4,4,4,5,5,5,5,5,5,5,5,5,5,5,5,5,5,5,5,6,6,6,6,6,6,6,6,6,6,6,6,6,6,6,6,6,6,6,6,6,6,6,6,6,6,6,6,6,6,6,6,7,7,7,7,7,7,7,7,7,7,7,7,7,7,7,7,7,7,7,7,7,7,7,7,7,7,7,7,7,7,7,7,7,7,7,7,7,7,7,7,7,7,7,7,7,7,7,7,7,7,7,7,7,7,7,7,7,7,7,7,7,7,7,7,8,8,8,8,8,8,8,8,8,8,8,8,8,8,8,8,8,8,8,8,8,8,8,8,8,8,8,8,8,8,8,8,8,8,8,8,8,8,8,8,8,8,8,8,8,8,8,8,8,8,8,8,8,8,8,8,8,8,8,8,8,8,8,8,8,8,8,8,8,8,8,8,8,8,8,8,8,8,8,8,8,8,8,8,8,8,8,8,8,8,8,8,8,8,8,8,8,8,8,8,8,8,8,8,8,8,8,8,8,8,8,8,8,8,8,8,8,8,8,8,8,8,8,8,8,8,8,8])))) (.l (yj (.c (.str [110,111,114,109,97,108]))))) (.b (.l (yj (.c (.str [45,49])))) (.l (yj (.c (.str [50,47,51]))))))) (.b (.b (.b (.l (yj (.c (.str [97,115,115,111,99,105,97,116,105,118,101])))) (.l (yj (.c (I (-4000000000000000000)))))) (.b (.l (yj (.c (I (-9223372036854775808))))) (tC 4000000000000000000))) (.b (.b (.l (yj (.c .rR))) (.b (.l (yj (.c (.fn 109 (.of 109) [])))) (.l (yj (.c (.fn 180 (.of 180) [])))))) (.b (.b (.l (yj (.c (.fn 220 (.of 220) [])))) (.l (yj (.c (.fn 221 (.of 221) []))))) (.b (.l (yj (.c (.fn 222 (.of 222) [])))) (.l (yj (.c (.fn 223 (.of 223) [])))))))))) (.b (.b (.b (.b (.b (.b (.l (yj (.c (.fn 224 (.of 224) [])))) (.l (yj (.c (.fn 225 (.of 225) []))))) (.b (.l (yj (.c (.fn 226 (.of 226) [])))) (.l (yj (.c (.fn 227 (.of 227) [])))))) (.b (.b (.l (yj (.c (.fp (oo 2))))) (.l (yj (.c (.int .u32 256))))) (.b (.l (yj (.c (.int .u32 48)))) (.l (yj (.c (.int .u32 65536))))))) (.b (.b (.b (.l (yj (.c (.int .u64 1)))) (.l (yj (.c (.int .u64 1000000000000000000))))) (.b (.l (yj (.c (.int .u64 18)))) (.l (yj (.c (.int .u64 256)))))) (.b (.b (.l (yj (.c (.int .u64 4294967296)))) (.l (yj (.c (.int .u64 65536))))) (.b (.l (yj (.c (.int .u64 9223372036854775807)))) (.l (yj (.c (.int .u8 47)))))))) (.b (.b (.b (.b (.l (yj (.c (.str [109,111,115,116,45,112,101,114,102,101,99,116])))) (.l (yj (.c (.str [32]))))) (.b (.l (yj (.c (.str [45,49,47,51])))) (.l (yj (.c (.str [45,50,47,51])))))) (.b (.b (.l (yj (.c (.str [48,49,50,51,52,53,54,55,56,57,97,98,99,100,101,102,103,104,105,106,107,108,109,110,111,112,113,114,115,116,117,118,119,120,121,122])))) (.l (yj (.c (.str [48,49,50,51,52,53,54,55,56,57]))))) (.b (.l (yj (.c (.str [49,47,51])))) (.l (yj (.c (.str [50]))))))) (.b (.b (.b (.l (yj (.c (.str [52,47,51])))) (.l (yj (.c (.str [54]))))) (.b (.l (yj (.c (.str [55])))) (.l (yj (.c (.str [98,105,109,97,103,105,99])))))) (.b (.b (.l (yj (.c (.str [98,111,114,100,101,114,101,100])))) (.l (yj (.c (I (-999999999)))))) (.b (tC 1048576) (tC 78913)))))) (aY 6))))) (.b (aY 2) (tC 0)))) (.b (.b (aY 1) (.b (.b (.b (.l (yj (.c .za))) (ru 8)) (aY 3)) (.b (.b (ru 9) (.b (.b (.b (.l (yj (.c (.str [109,97,103,105,99])))) (tC 1000000000)) (.b (tC 15) (tC 8))) (ru 12))) (.b (.b (.b (.b (ru 19) (.l (yj (.c (I (-1)))))) (aY 10)) (.b (.b (tC 5) (tC 9)) (.b (.b (.l (yj (.c (.str [112,97,110,100,105,97,103,111,110,97,108])))) (.l (yj (.c (.str [45]))))) (.b (.l (yj (.c (.str [49])))) (tC 12))))) (aY 4))))) (.b (.b (ru 1) (.b (tC 1) (ru 5))) (.b (ru 0) (.b (.b (.b (.b (.b (.b (tC 6) (ru 26)) (.l (qa (λk=>.t (.of k)) (dzrk 512)))) (.l (qa (λk=>.c (I (.ofNat k))) (dzrk 16384)))) (.b (.b (.b (ru 27) (.l (yj (.c (.int .u64 32))))) (tC 10)) (aY 7))) (.b (.l (yj (.c (.bool true)))) (.b (ru 14) (.b (ru 16) (ru 18))))) (ru 4)))))))
def zpb:HT Nat:=(.b (wu 0) (.b (.b (.b (wu 4) (.b (.b (wu 8) (.b (.b (.b (.b (.b (wu 11) (wu 117)) (.b (wu 12) (wu 128))) (.b (.b (wu 138) (wu 14)) (.b (wu 174) (wu 176)))) (.b (.b (.b (wu 185) (wu 20)) (.b (wu 238) (wu 239))) (.b (.b (wu 244) (wu 273)) (.b (wu 274) (wu 275))))) (.b (.b (.b (.b (wu 276) (wu 279)) (.b (wu 280) (wu 56))) (wu 9)) (wu 16)))) (.b (.b (wu 24) (.b (.b (wu 7) (.b (wu 10) (.b (wu 64) (wu 32)))) (.b (wu 6) (wu 5)))) (wu 3)))) (wu 2)) (wu 1)))
def dkpa:HT Pa:=(.b (.b (pz 2) (.b (pz 4) (.b (.b (pz 10) (pz 9)) (pz 7)))) (.b (.b (.b (pz 1) (pz 6)) (pz 3)) (.b (.b (.b (.b (.b (.b (.b (.b (pz 273) (pz 274)) (.b (pz 275) (pz 276))) (.b (.b (pz 279) (pz 280)) (.b (pz 31) (pz 32)))) (.b (pz 21) (pz 25))) (.b (pz 18) (.b (.b (.b (pz 33) (pz 35)) (pz 29)) (pz 22)))) (.b (pz 13) (pz 0))) (pz 5)) (.b (.b (.b (pz 12) (.b (.b (pz 23) (pz 24)) (.b (pz 26) (pz 27)))) (.b (.b (pz 14) (pz 16)) (.b (pz 17) (pz 15)))) (.b (pz 8) (.b (pz 11) (.b (.b (pz 19) (pz 20)) (.b (.b (pz 28) (.b (pz 30) (pz 34))) (.b (.b (.b (pz 117) (pz 138)) (.b (pz 174) (pz 176))) (.b (.b (pz 185) (pz 238)) (.b (pz 239) (pz 244))))))))))))
def zbj:HT (List AV):=(.b (.b (.b (.l [.za]) (.l [(I 0),.za,(I 0),.za])) (.l [(I 0)])) (.b (.l [(I 0),.za]) (.b (.b (.b (.b (.l [(I 0),.za,(I 0),.za,(I 0),.za,(I 0),.za]) (.l [.za,.za,(I 0)])) (.b (.b (.l [(.int .u64 0)]) (.l [.za,.za])) (.b (.b (.l [(.int .u8 0),(.int .u8 0),(.int .u8 0),(.int .u8 0),(.int .u8 0),(.int .u8 0),(.int .u8 0),(.int .u8 0),(.int .u8 0),(.int .u8 0),(.int .u8 0),(.int .u8 0),(.int .u8 0),(.int .u8 0),(.int .u8 0),(.int .u8 0),(.int .u8 0),(.int .u8 0),(.int .u8 0),(.int .u8 0),(.int .u8 0),(.int .u8 0),(.int .u8 0),(.int .u8 0)]) (.l [(I 0),(I 0),.za])) (.b (.l [.rR]) (.l [.rY,.za]))))) (.l [(.bool false),.za])) (.b (.l [(.str [])]) (.b (.l [(I 0),(I 0)]) (.l [(.str []),.rR]))))))
def dkav:HT AV:=(.l (.bool false))
def dkoa:HT (Option Arg):=(.b (.l none) (.b (.b (.l (some (.c (I 1)))) (.b (.b (.l (some (.s 2))) (.l (some (.s 8)))) (.b (.l (some (.s 3))) (.b (.l (some (.s 1))) (.l (some (.s 16))))))) (.l (some (.s 0)))))
def dkon:HT (Option Nat):=(.l none)
def dkik:HT IntKind:=(.b (.b (.l .u32) (.l .u8)) (.b (.l .i64) (.l .u64)))
def dkkk:HT KK:=(.l .str)
def dkbo:HT Bool:=(.b (.l false) (.l true))
def sj:HT Dst:=(.b (.b (.l .none) (.b (.b (.b (.l (.loc (.of 4))) (.b (.b (.l (.loc (.of 10))) (.l (.loc (.of 7)))) (.l (.loc (.of 5))))) (.l (.loc (.of 1)))) (.b (.l (.loc (.of 2))) (.b (.b (.b (.l (.loc (.of 12))) (.b (.l (.loc (.of 11))) (.l (.loc (.of 13))))) (.b (.b (.l (.loc (.of 6))) (.b (.l (.loc (.of 8))) (.l (.loc (.of 14))))) (.b (.l (.loc (.of 9))) (.b (.b (.l (.loc (.of 16))) (.l (.loc (.of 20)))) (.b (.l (.loc (.of 21))) (.l (.loc (.of 31)))))))) (.l (.loc (.of 3))))))) (.l .push))
def zpc:HT (Arg->Arg->PO):=(.b (.b (.b (.b (.b (.l (PO.bin .shr .int)) (.b (.b (.b (.l (PO.bin .eql (.agg 2))) (.l (PO.bin .neq (.nil .sl)))) (.l (PO.bin .neq .str))) (.b (.l (PO.bin .and .int)) (.b (.l (PO.bin .eql .bool)) (.l (PO.bin .neq .bool)))))) (.l (PO.bin .geq .int))) (.b (.l (PO.bin .mul .int)) (.b (.l (PO.bin .eql (.nil .sl))) (.l (PO.bin .quo .int))))) (.b (.l (PO.bin .sub .int)) (.b (.l (PO.bin .gtr .int)) (.l (PO.bin .eql .int))))) (.b (.l (PO.bin .add .int)) (.b (.b (.b (.b (.b (.l (PO.bin .eql .str)) (.l (PO.bin .leq .int))) (.l (PO.bin .add .str))) (.l (PO.bin .rem .int))) (.l (PO.bin .neq .int))) (.l (PO.bin .lss .int)))))
def zzr:HT Nat:=(.b (wu 0) (.b (.b (wu 3) (wu 1)) (.b (.b (.b (.b (.b (wu 10) (.b (.b (.b (.b (wu 38) (wu 49)) (wu 18)) (wu 11)) (wu 12))) (wu 7)) (wu 4)) (.b (.b (wu 8) (wu 6)) (.b (.b (.b (.b (.b (wu 24) (wu 13)) (.b (wu 14) (.b (wu 17) (wu 19)))) (.b (wu 15) (.b (.b (wu 26) (.b (wu 23) (wu 29))) (wu 16)))) (wu 9)) (wu 5)))) (wu 2))))
def zzs:HT Nat:=(.b (.l 1) (.b (.l 2) (.l 0)))
def dka:Rd Arg:=dzrj zzq
def su:Rd (Option (Arg×Bool)):=dzrj ((.b (.b (.l (qa (λa=>some (a,false)) dka)) (.l (qa (λa=>some (a,true)) dka))) (.l (yj none))))
def dkck:Rd Arg:=dzrj ((.b (.l dka) (.l (qa (λk=>.c (.fn k (.of k) [])) (dzrk 512)))))
def dklp:Rd (Nat×Nat×Arg):=zh (qa (λa b=>(a,b)) (xq zpb)) (zh (qa (λa b=>(a,b)) (xq zpb)) dka)
def dkn:Rd Nat:=xq zpb
def dkp:Rd Pa:=xq dkpa
def eO {α:Type} (a:Rd α) (r:List α):Rd (List α):=dzrb (xq zzr) λk=>Nat.rec (yj r) (λ_ ih=>zh (qa List.cons a) ih) k
def dkwo:Rd WO:=dzrj (.b (.l (zh (yj WO.alloc) (xq zbj))) (.l (zh (zh (zh (zh (yj WO.dz) dkn) dkn) (xq zbj)) (eO dklp []))))
def dkro:Rd RO:=dzrj (.b (.b (.l (zh (qa RO.q dkp) (zh (yj PO.mv) dka))) (.l (qa RO.s (zh (yj PO.mv) dka)))) (.b (.b (.b (.b (.b (.b (.l (qa RO.s (zh (zh (yj PO.build) (xq zbj)) (eO dklp [])))) (.l (zh (qa RO.q dkp) (zh (zh (zh (yj PO.pick) dka) dka) dka)))) (.l (zh (zh (qa RO.w (xq sj)) su) (zh (zh (zh (zh (yj WO.dz) dkn) dkn) (xq zbj)) (eO dklp []))))) (.b (.l (zh (zh (qa RO.p (xq sj)) su) (zh (yj PO.mv) dka))) (.b (.b (.l (qa RO.s (zh (zh (yj PO.sidx) dka) dka))) (.b (.l (qa RO.s (zh (yj PO.not) dka))) (.l (qa RO.s (zh (zh (zh (zh (zh (yj PO.slice) dkn) dka) (xq dkoa)) (xq dkoa)) (xq dkoa)))))) (.l (zh (zh (qa RO.w (xq sj)) su) (zh (zh (zh (zh (yj WO.app) dkn) dkn) dka) dka)))))) (.b (.l (zh (zh (qa RO.w (xq sj)) su) (zh (zh (zh (yj WO.store) dkn) dka) dka))) (.l (qa RO.s (zh (zh (zh (yj PO.tJ) dkn) dka) dka))))) (.b (.b (.b (.b (.b (.l (zh (zh (qa RO.p (xq sj)) su) (zh (zh (zh (yj PO.tJ) dkn) dka) dka))) (.b (.b (.b (.b (.l (qa RO.s (zh (zh (zh (yj PO.part) dkn) (xq dkon)) dka))) (.l (zh (zh (qa RO.w (xq sj)) su) (zh (zh (zh (zh (zh (yj WO.appm) dkn) dkn) (xq zbj)) dka) dka)))) (.b (.l (zh (zh (qa RO.w (xq sj)) su) (zh (zh (zh (zh (yj WO.znf) (xq dkkk)) dka) dka) dka))) (.l (zh (zh (qa RO.w (xq sj)) su) (yj WO.zab))))) (.l (zh (zh (qa RO.w (xq sj)) su) (zh (zh (zh (zh (zh (yj WO.sV) dkn) dkn) (xq zbj)) dka) dka)))) (.l (zh (zh (qa RO.p (xq sj)) su) (zh (yj PO.len) dka))))) (.l (qa RO.s (zh (zh (zh (yj PO.pick) dka) dka) dka)))) (.l (zh (zh (qa RO.w (xq sj)) su) (zh (yj WO.alloc) (xq zbj))))) (.b (.l (qa RO.s (zh (yj PO.len) dka))) (.b (.l (zh (qa RO.q dkp) (zh (yj PO.len) dka))) (.l (zh (zh (qa RO.p (xq sj)) su) (zh (yj PO.load) dka)))))) (.b (.l (qa RO.s (zh (zh (yj PO.oW) dkn) dka))) (.l (qa RO.s (zh (zh (yj PO.zm) dkn) dka)))))) (.b (.b (.b (.l (zh (qa RO.q dkp) (zh (zh (xq zpc) dka) dka))) (.b (.l (zh (zh (qa RO.w (xq sj)) su) (zh (yj WO.box) dka))) (.b (.b (.b (.l (zh (qa RO.q dkp) (zh (yj PO.load) dka))) (.l (qa RO.s (zh (zh (zh (yj PO.fn) dkn) dkp) (eO dka []))))) (.b (.l (zh (zh (qa RO.p (xq sj)) su) (zh (yj PO.not) dka))) (.b (.b (.l (zh (zh (qa RO.p (xq sj)) su) (zh (zh (zh (zh (yj PO.zfq) dkn) dkn) dka) dka))) (.l (zh (zh (qa RO.p (xq sj)) su) (zh (zh (zh (yj PO.fn) dkn) dkp) (eO dka []))))) (.b (.l (zh (zh (qa RO.p (xq sj)) su) (zh (zh (yj PO.sidx) dka) dka))) (.l (zh (qa RO.q dkp) (zh (zh (zh (yj PO.part) dkn) (xq dkon)) dka))))))) (.l (zh (zh (qa RO.p (xq sj)) su) (zh (zh (xq zpc) dka) dka)))))) (.l (qa RO.s (zh (zh (xq zpc) dka) dka)))) (.b (.l (zh (zh (qa RO.w (xq sj)) su) (zh (zh (yj WO.call) dkck) (eO dka [])))) (.b (.b (.l (qa RO.s (zh (zh (yj PO.ext) dkn) dka))) (.b (.b (.b (.l (qa RO.s (zh (zh (zh (yj PO.oZ) dka) (xq dkoa)) (xq dkoa)))) (.b (.l (qa RO.s (zh (zh (zh (zh (yj PO.zfq) dkn) dkn) dka) dka))) (.b (.l (qa RO.s (zh (zh (zh (zh (zh (zh (yj PO.aslice) dkn) dkn) dka) (xq dkoa)) (xq dkoa)) (xq dkoa)))) (.l (zh (zh (qa RO.p (xq sj)) su) (zh (yj PO.slen) dka)))))) (.l (zh (zh (qa RO.p (xq sj)) su) (zh (zh (yj PO.oW) dkn) dka)))) (.b (.b (.l (qa RO.s (zh (zh (yj PO.conv) (xq dkik)) dka))) (.l (qa RO.s (zh (yj PO.slen) dka)))) (.b (.b (.l (zh (qa RO.q dkp) (zh (yj PO.not) dka))) (.b (.l (qa RO.s (zh (zh (zh (yj PO.zaa) (xq dkbo)) dka) (eO dka [])))) (.l (qa RO.s (zh (yj PO.neg) dka))))) (.b (.b (.b (.l (qa RO.s (zh (yj PO.b2s) dka))) (.l (qa RO.s (zh (yj PO.capz) dka)))) (.b (.l (zh (zh (qa RO.w (xq sj)) su) (zh (zh (zh (zh (yj WO.appq) dkn) dkn) dka) dka))) (.b (.l (zh (zh (qa RO.p (xq sj)) su) (zh (zh (zh (yj PO.oZ) dka) (xq dkoa)) (xq dkoa)))) (.l (qa RO.s (zh (zh (zh (zh (zh (yj PO.look) (xq dkkk)) (xq dkav)) (xq dkbo)) dka) dka)))))) (.l (zh (zh (qa RO.p (xq sj)) su) (zh (zh (yj PO.zm) dkn) dka)))))))) (.l (qa RO.s (zh (yj PO.load) dka))))))))
def dkl:Rd (List RO):=eO dkro []
def dI (R:List IR) (n:Nat):IR:=(Nat.rec (motive:=λ_=>Rd IR) (yj .skip) (λ_ q=>dzrj (.b (.b (.b (.l (yj IR.skip)) (.l (zh (zh (zh (yj IR.cond) dka) q) q))) (.b (.l (yj IR.ret)) (.b (.l (zh (qa IR.rq (eO dkwo [])) (eO (zh (qa (λa b=>(a,b)) dkro) (zh (qa (λa b=>(a,b)) dkn) (eO dkwo []))) []))) (.l (qa IR.reg dkl))))) (.b (.b (.b (.l (zh (zh (yj IR.block) dkn) q)) (.b (.l (zh (yj IR.exit) dkn)) (.b (.b (.b (.l (zh (yj IR.bad) dkn)) (.l (zh (zh (zh (zh (yj IR.rf) dka) (eO dkp [])) q) q))) (.l (qa (λk=>dzlg R k) (xq zzs)))) (.l (zh (yj IR.loop) q))))) (.l (zh (qa IR.seq q) q))) (.l (zh (qa (λl=>IR.seq (.reg l)) dkl) q))))) 200 n).1
def dA (r:List RO) (n:Nat):List RO:=(eO dkro r n).1
end
end Go.Ev
namespace Go.Ev
open Go Go.Proofs
set_option maxRecDepth 100000
noncomputable section
abbrev aT0:Arg:=.t (.of 0)
abbrev aT1:Arg:=.t (.of 1)
abbrev aT2:Arg:=.t (.of 2)
abbrev aT3:Arg:=.t (.of 3)
abbrev aT4:Arg:=.t (.of 4)
abbrev aT5:Arg:=.t (.of 5)
abbrev aT6:Arg:=.t (.of 6)
abbrev aT7:Arg:=.t (.of 7)
abbrev aT8:Arg:=.t (.of 8)
abbrev aT9:Arg:=.t (.of 9)
abbrev aT10:Arg:=.t (.of 10)
abbrev aT11:Arg:=.t (.of 11)
abbrev aT12:Arg:=.t (.of 12)
abbrev oD:Arg:=.t (.of 13)
abbrev aT14:Arg:=.t (.of 14)
abbrev aT15:Arg:=.t (.of 15)
abbrev aT16:Arg:=.t (.of 16)
abbrev aT17:Arg:=.t (.of 17)
abbrev aT18:Arg:=.t (.of 18)
abbrev aT19:Arg:=.t (.of 19)
abbrev aT20:Arg:=.t (.of 20)
abbrev aT21:Arg:=.t (.of 21)
abbrev aT22:Arg:=.t (.of 22)
abbrev aT23:Arg:=.t (.of 23)
abbrev aT24:Arg:=.t (.of 24)
abbrev aT25:Arg:=.t (.of 25)
abbrev aT26:Arg:=.t (.of 26)
abbrev aT27:Arg:=.t (.of 27)
abbrev aT28:Arg:=.t (.of 28)
abbrev aS0:Arg:=.s 0
abbrev aS1:Arg:=.s 1
abbrev aS2:Arg:=.s 2
abbrev aS3:Arg:=.s 3
abbrev aS4:Arg:=.s 4
abbrev aS5:Arg:=.s 5
abbrev aS8:Arg:=.s 8
abbrev aS11:Arg:=.s 11
abbrev aC0:Arg:=.c (I 0)
abbrev aC1:Arg:=.c (I 1)
abbrev aC32:Arg:=.c (I 32)
abbrev F5.fr:=fr15
def F5.t0:IR:=.reg (dA [] 42202271)
def F5.t1:IR:=.reg (dA [] 1071976784805353)
def F5.t2:IR:=.reg (dA [] 18367)
def F5.t6:IR:=.reg (dA [] 19425519329269480288099)
def F5.t7:IR:=.reg (dA [] 3045299011049)
def F5.t8:IR:=.reg (dA [] 1970675447)
def F5.zfi (r:List RO):List RO:=dA r 167471
def F5.r6_2:List RO:=F5.zfi []
def F5.eX (r:List RO):List RO:=dA r 579031
def F5.r6_1:List RO:=F5.eX F5.r6_2
def F5.eU (r:List RO):List RO:=dA r 6931919283329438628389619636545931
def F5.om:List RO:=F5.eU F5.r6_1
def F5.t9:IR:=.reg F5.om
def F5.t13:IR:=.reg (dA [] 2495652249065)
def F5.zfe (r:List RO):List RO:=dA r 401119757
def F5.r8_1:List RO:=F5.zfe []
def F5.zfd (r:List RO):List RO:=dA r 146190351920554160653781898322290605963
def F5.r8_0:List RO:=F5.zfd F5.r8_1
def F5.t14:IR:=.reg F5.r8_0
def F5.t19:IR:=.reg (dA [] 125027931441)
def F5.t20:IR:=.reg (dA [] 1672991517)
def F5.t22:IR:=.reg (dA [] 465783)
def F5.zne (r:List RO):List RO:=dA r 107058549634012575
def F5.zt3:List RO:=F5.zne []
def F5.znd (r:List RO):List RO:=dA r 30635797077266733332690395626620478768149345068596579
def F5.zt4:List RO:=F5.znd F5.zt3
def F5.znc (r:List RO):List RO:=dA r 38165086494939116462326674733392715
def F5.zt5:List RO:=F5.znc F5.zt4
def F5.znb (r:List RO):List RO:=dA r 8798172346256021309835
def F5.zna:List RO:=F5.znb F5.zt5
def F5.t23:IR:=.rq [] (F5.zna.map λo=>(o,0,[]))
def F5.t30:IR:=.reg (dA [] 238008031)
def F5.t33:IR:=.seq F5.t20 (.seq (.cond oD .skip (.exit 0)) (.seq (.block 1 (.seq F5.t22 (.seq F5.t23 (.cond aT14 (.seq (.reg (dA [] 645)) .ret) .skip)))) F5.t30))
def F5.t34:IR:=.loop F5.t33
def F5.t37:IR:=.reg (dA [] 18367)
def F5.t46:IR:=.seq F5.t0 (.seq (.seq F5.t1 (.cond aT8 (.seq F5.t2 .ret) .skip)) (.seq F5.t6 (.seq F5.t7 (.seq (.seq F5.t8 (.cond aT9 (.seq F5.t9 .ret) .skip)) (.seq F5.t13 (.seq (.seq F5.t14 (.cond aT10 (.seq (.reg (dA [] 645)) .ret) .skip)) (.seq (.seq F5.t19 (.block 0 F5.t34)) (.seq F5.t37 .ret))))))))
def F5.b0:IR:=F5.t46
def F5.res:List RV:=[.t (.of 2)]
def F5:Fn:={ params:=[(.of 0)],res:=F5.res,body:=F5.b0,init:=in15 }
theorem F5.ok:fnA Tryz.prog Tryz.f5 [0,1,2,3,4,5,6,7,10,20,42,44,45,46,72]=some F5:=by kernel_rfl
abbrev F16.fr:=fr9
def F16.b4:IR:=dI [] 2449445065466826833060496084608966642535652065891975766032196305960236925
def F16.b3:IR:=(.loop F16.b4)
def F16.g2 (X3:IR):IR:=(.block 0 X3)
def F16.b2:IR:=F16.g2 F16.b3
def F16.b9:IR:=dI [] 621847
def F16.b0:IR:=dI [F16.b2,F16.b9] 1026769306894012115394627753955454507817747083903
def F16.res:List RV:=[.t (.of 4)]
def F16:Fn:={ params:=[(.of 0),(.of 1),(.of 2)],res:=F16.res,body:=F16.b0,init:=in9 }
theorem F16.ok:fnA Tryz.prog Tryz.f16 [0,1,2,3,6,7,12,17,27]=some F16:=by kernel_rfl
abbrev F17.fr:=fr29
def F17.b0:IR:=dI [] 2805360540077768115459850382145282686856656614333729769234016764760830184893887421842624944067247748792020714908057805573024288041131251898352160850326460056897029630805005182070272721123581923091083190862906095979798980357411014656711058349175473001547265353599550569885599168396642433374804950344130978582747756812085192251843457425021868852017510162661493567575558478860785135930839937447568933361072724318232746085959448580676864578845088451354077226549598074131110643496389923211859561901297511993310561843108936003479308737448990211034071120107295814417287018720502551477283521289271869392559478545843748333173817090372283749994787792695934122843236620454431572969186795976796476594617208357731625029622194790512392085137446496759774798878716032372891481162176404366083282208118823154414780756016121410629965650836057803007550737088807486475287623844644082411019535489748412307711979865354561162350839545360335091347992514639314976616285522829670231676025441989730875340353445181974123618208069942434406350472159374646850748110990950660771518242079391749329523710001506631736621489860614640479119663991599112246432754259690556392121438981735304535125850468416157432084253254057054059647198673658530022640959492232248616910855608695330422810523729704911598109287364826037433041692583785489948048805318717319525285300779230890080663
def F17.res:List RV:=[.t (.of 0)]
def F17:Fn:={ params:=[],res:=F17.res,body:=F17.b0,init:=in29 }
theorem F17.ok:fnA Tryz.prog Tryz.f17 [0,1,2,3,4,5,6,7,8,9,10,11,12,13,14,15,16,17,18,19,20,21,22,23,24,25,26,127,165]=some F17:=by kernel_rfl
abbrev F18.fr:=fr11
def F18.b4:IR:=dI [] 1666594606665612836327381041854722637132418891166482297024988541589903479
def F18.b3:IR:=(.loop F18.b4)
def F18.g2 (X3:IR):IR:=(.block 0 X3)
def F18.b2:IR:=F18.g2 F18.b3
def F18.b9:IR:=dI [] 47639
def F18.b0:IR:=dI [F18.b2,F18.b9] 8170178498508685167255366539559738634858027888039750118856906539839561740635886218357260209118063937780977172441529148486971368624083583
def F18.res:List RV:=[.t (.of 2)]
def F18:Fn:={ params:=[(.of 0)],res:=F18.res,body:=F18.b0,init:=in11 }
theorem F18.ok:fnA Tryz.prog Tryz.f18 [0,1,2,3,4,5,18,22,23,24,30]=some F18:=by kernel_rfl
abbrev F19.fr:=fr14
def F19.b16:IR:=dI [] 9623024250335911150225332643402897121199881032324760004915903453527287507129746821573004576769937130025060473653
def F19.b17:IR:=dI [] 11908542238
def F19.b12:IR:=dI [F19.b16,F19.b17] 7430592110803373913596669544910633678714224239031589026539207128962446227262675859274087963634076658514517743252676678482557
def F19.b11:IR:=(.loop F19.b12)
def F19.g10 (X11:IR):IR:=(.block 2 X11)
def F19.b10:IR:=F19.g10 F19.b11
def F19.b18:IR:=dI [] 7131740667385675089558043334720875951
def F19.b19:IR:=dI [] 2733036318
def F19.b5:IR:=dI [F19.b10,F19.b18,F19.b19] 3221447409568418093123981317285756356266748763753242990922620558560448153195460477
def F19.b4:IR:=(.loop F19.b5)
def F19.g3 (X4:IR):IR:=(.block 0 X4)
def F19.b3:IR:=F19.g3 F19.b4
def F19.b20:IR:=dI [] 47639
def F19.b0:IR:=dI [F19.b3,F19.b20] 1611283793803015012829584928559600896807655166935128044352336277660378489027567076196776297887855943864959
def F19.res:List RV:=[.t (.of 2)]
def F19:Fn:={ params:=[(.of 0)],res:=F19.res,body:=F19.b0,init:=in14 }
theorem F19.ok:fnA Tryz.prog Tryz.f19 [0,1,2,3,4,5,13,17,22,32,36,52,66,72]=some F19:=by kernel_rfl
abbrev F20.fr:=fr14
def F20.b0:IR:=dI [] 529538964631550699704955216713619599123686131688851422291724016154528273091096237822775399705563008262289565944196340302724004524499723789763631486348347604045084825823018124962073001314016338278609654917025770444228495025301753030938014932054055632710697989145838387653016091017712668640071420407589384631180959141116121222226384832469507755451281651380973162745308477736750669320496758807117470575094854512695078011177103990802772357422908577546942916500517076958169998165936807334527
def F20.res:List RV:=[.t (.of 2)]
def F20:Fn:={ params:=[(.of 0)],res:=F20.res,body:=F20.b0,init:=in14 }
theorem F20.ok:fnA Tryz.prog Tryz.f20 [0,1,2,3,4,5,6,7,20,23,24,25,26,71]=some F20:=by kernel_rfl
abbrev F22.fr:=fr4
def F22.t0:IR:=.reg (dA [] 42202271)
def F22.t1:IR:=.reg (dA [] 25914572403932527317761867241)
def F22.t2:IR:=.reg (dA [] 645)
def F22.t6:IR:=.reg (dA [] 8312544557957735634956278546990349300657995)
def F22.t9:IR:=.seq F22.t0 (.seq (.seq F22.t1 (.cond aT3 (.seq F22.t2 .ret) .skip)) (.seq F22.t6 .ret))
def F22.b0:IR:=F22.t9
def F22.res:List RV:=[.t (.of 2)]
def F22:Fn:={ params:=[(.of 0)],res:=F22.res,body:=F22.b0,init:=in4 }
theorem F22.ok:fnA Tryz.prog Tryz.f22 [0,1,2,5]=some F22:=by kernel_rfl
abbrev F23.fr:=fr6
def F23.b0:IR:=dI [] 281133840756045972286579973457689969658380171011574987136831310903837118587043041895
def F23.res:List RV:=[.t (.of 2),.t (.of 3)]
def F23:Fn:={ params:=[(.of 0)],res:=F23.res,body:=F23.b0,init:=in6 }
theorem F23.ok:fnA Tryz.prog Tryz.f23 [0,1,2,3,4,8]=some F23:=by kernel_rfl
abbrev F24.fr:=fr14
def F24.b0:IR:=dI [] 69040169111273617760382781940694786462645344699257648618915850621779478711352248227886575141690847236369256363539754252325372225935261071668230777007547199309451545132794095867103940504632033471735057981589269183886837421159015
def F24.res:List RV:=[.t (.of 3),.t (.of 4)]
def F24:Fn:={ params:=[(.of 0),(.of 1)],res:=F24.res,body:=F24.b0,init:=in14 }
theorem F24.ok:fnA Tryz.prog Tryz.f24 [0,1,2,4,5,6,7,9,14,19,22,23,24,25]=some F24:=by kernel_rfl
abbrev F29.fr:=fr7
def F29.t0:IR:=.reg (dA [] 645)
def F29.t1:IR:=.reg (dA [] 964326087372731)
def F29.t2:IR:=.reg (dA [] 645)
def F29.t6:IR:=.reg [iQo 3 (.mv aC0)]
def F29.t7:IR:=.reg (dA [] 3837765870803)
def F29.t10:IR:=dI [] 40120047758452225336214248015260518
def F29.t11:IR:=.reg (dA [] 645)
def F29.t16:IR:=.reg (dA [] 170814769)
def F29.t18:IR:=.seq (.seq F29.t7 (.cond aT5 .skip (.exit 0))) (.seq (.block 1 (.seq F29.t10 (.cond aT6 (.seq F29.t11 .ret) .skip))) F29.t16)
def F29.t19:IR:=.loop F29.t18
def F29.t22:IR:=.reg (dA [] 12165)
def F29.t26:IR:=.seq F29.t0 (.seq (.seq F29.t1 (.cond aT4 (.seq F29.t2 .ret) .skip)) (.seq (.seq F29.t6 (.block 0 F29.t19)) (.seq F29.t22 .ret)))
def F29.b0:IR:=F29.t26
def F29.res:List RV:=[.t (.of 2)]
def F29:Fn:={ params:=[(.of 0),(.of 1)],res:=F29.res,body:=F29.b0,init:=in7 }
theorem F29.ok:fnA Tryz.prog Tryz.f29 [0,1,4,5,10,14,25]=some F29:=by kernel_rfl
abbrev F31.fr:=fr28
def F31.t0:IR:=.reg (dA [] 1017999783065)
def F31.t1:IR:=.reg (dA [] 571389459945)
def F31.t2:IR:=.reg (dA [] 7880515575)
def F31.t3:IR:=.reg (dA [] 84248561)
def F31.t8:IR:=.reg [iQo 5 (.mv (.c .za))]
def F31.t9:IR:=.reg [iQo 6 (.mv (.c .za))]
def F31.t10:IR:=.reg (dA [] 17559552538017473658291)
def F31.t11:IR:=.reg (dA [] 15847080733)
def F31.t13:IR:=.reg (dA [] 69675462822632493499)
def F31.t14:IR:=dI [] 34336188561454504406772054746341979924949946470
def F31.t15:IR:=.reg (dA [] 534176028825680993)
def F31.t16:IR:=.reg (dA [] 490344530717)
def F31.t18:IR:=.reg (dA [] 482593717125080338620606259)
def F31.t19:IR:=.reg (dA [] 271227817721958149559112080291)
def F31.t20:IR:=.reg (dA [] 1033196063568618539883451)
def F31.t21:IR:=dI [] 9254242177201223951458589253419447654
def F31.t26:IR:=.reg (dA [] 22426596063)
def F31.t29:IR:=.seq F31.t16 (.seq (.cond aT25 .skip (.exit 2)) (.seq (.block 3 (.seq F31.t18 (.seq F31.t19 (.seq F31.t20 F31.t21)))) F31.t26))
def F31.t30:IR:=.loop F31.t29
def F31.t33:IR:=.reg (dA [] 2686886231896945)
def F31.t34:IR:=.reg (dA [] 31635307319)
def F31.t35:IR:=.reg (dA [] 331862100002678100628519413059024366073490755)
def F31.t36:IR:=.reg (dA [] 126151611191)
def F31.t41:IR:=.reg (dA [] 25423065692254755648037790403743705250081627)
def F31.t47:IR:=.reg (dA [] 4499077464139988145)
def F31.t48:IR:=.reg (dA [] 1842402735809397051844027)
def F31.t49:IR:=.reg (dA [] 1214652887420418726154040645983139)
def F31.t50:IR:=.reg (dA [] 4393630142026609)
def F31.t51:IR:=.reg (dA [] 4393630142028977)
def F31.t52:IR:=.reg (dA [] 7906869782760455954732219575885303413944858507)
def F31.t64:IR:=.reg (dA [] 12823831263)
def F31.t67:IR:=.seq F31.t11 (.seq (.cond aT21 .skip (.exit 0)) (.seq (.block 1 (.seq F31.t13 (.seq F31.t14 (.seq (.seq F31.t15 (.block 2 F31.t30)) (.seq F31.t33 (.seq (.seq F31.t34 (.cond aT26 (.seq F31.t35 (.seq (.seq F31.t36 (.cond aT27 (.seq (.reg (dA [] 673977137)) .ret) .skip)) (.seq F31.t41 (.exit 1)))) .skip)) (.seq F31.t47 (.seq F31.t48 (.seq F31.t49 (.seq F31.t50 (.seq F31.t51 F31.t52))))))))))) F31.t64))
def F31.t68:IR:=.loop F31.t67
def F31.t71:IR:=.reg (dA [] 62128817)
def F31.t77:IR:=.seq F31.t0 (.seq (.seq F31.t1 (.seq F31.t2 (.cond aT17 (.seq F31.t3 .ret) .skip))) (.seq F31.t8 (.seq F31.t9 (.seq (.seq F31.t10 (.block 0 F31.t68)) (.seq F31.t71 .ret)))))
def F31.b0:IR:=F31.t77
def F31.res:List RV:=[.t (.of 2),.t (.of 3)]
def F31:Fn:={ params:=[(.of 0)],res:=F31.res,body:=F31.b0,init:=in28 }
theorem F31.ok:fnA Tryz.prog Tryz.f31 [0,1,2,3,4,5,6,7,8,9,10,12,13,14,15,16,17,21,24,25,26,27,39,40,41,42,65,76]=some F31:=by kernel_rfl
abbrev F32.fr:=fr21
def F32.t0:IR:=.reg (dA [] 92533919)
def F32.t1:IR:=.reg [iQo 3 (.mv (.c .za))]
def F32.t2:IR:=.reg [iQo 4 (.mv (.c .za))]
def F32.t3:IR:=.reg [iQo 5 (.mv aC0)]
def F32.t4:IR:=.reg (dA [] 792476946301417403)
def F32.t7:IR:=.reg (dA [] 40669585945982899)
def F32.t8:IR:=.reg [iQo 7 (.mv (.c .za))]
def F32.t9:IR:=.reg [iQo 8 (.mv aC0)]
def F32.t10:IR:=.reg (dA [] 982352410142163)
def F32.t13:IR:=.reg [iQo 9 (.mv (.c .za))]
def F32.t14:IR:=.reg [iQo 10 (.mv aC0)]
def F32.t15:IR:=.reg (dA [] 245038177039059)
def F32.t18:IR:=dI [] 36232828653572349239680387257443778849519579030733447254678913894
def F32.t20:IR:=.reg (dA [] 817478833)
def F32.t22:IR:=.seq (.seq F32.t15 (.cond aT17 .skip (.exit 4))) (.seq (.block 5 F32.t18) F32.t20)
def F32.t23:IR:=.loop F32.t22
def F32.t26:IR:=.reg (dA [] 33178342200848663951803)
def F32.t30:IR:=.reg (dA [] 2025437553)
def F32.t32:IR:=.seq (.seq F32.t10 (.cond aT16 .skip (.exit 2))) (.seq (.block 3 (.seq F32.t13 (.seq (.seq F32.t14 (.block 4 F32.t23)) F32.t26))) F32.t30)
def F32.t33:IR:=.loop F32.t32
def F32.t36:IR:=.reg (dA [] 1011759230961)
def F32.t37:IR:=.reg (dA [] 605463805655839653819)
def F32.t41:IR:=.reg (dA [] 68226530282161142356097419)
def F32.t42:IR:=.reg (dA [] 530447223)
def F32.t43:IR:=.reg (dA [] 605463805655839653819)
def F32.t47:IR:=.reg (dA [] 163889528561)
def F32.t48:IR:=.reg [iQo 14 (.mv aC0)]
def F32.t49:IR:=.reg (dA [] 1965864882434003)
def F32.t52:IR:=dI [] 19650414340569307632456401263646019538671741030
def F32.t54:IR:=.reg (dA [] 12396714993)
def F32.t56:IR:=.seq (.seq F32.t49 (.cond aT20 .skip (.exit 6))) (.seq (.block 7 F32.t52) F32.t54)
def F32.t57:IR:=.loop F32.t56
def F32.t60:IR:=.reg (dA [] 425437237226438902340025148025588131)
def F32.t70:IR:=.reg (dA [] 744283889)
def F32.t72:IR:=.seq (.seq F32.t4 (.cond aT15 .skip (.exit 0))) (.seq (.block 1 (.seq F32.t7 (.seq F32.t8 (.seq (.seq F32.t9 (.block 2 F32.t33)) (.seq (.seq F32.t36 (.cond aT18 (.seq F32.t37 (.exit 1)) .skip)) (.seq F32.t41 (.seq (.seq F32.t42 (.cond aT19 (.seq F32.t43 (.exit 1)) .skip)) (.seq F32.t47 (.seq (.seq F32.t48 (.block 6 F32.t57)) F32.t60))))))))) F32.t70)
def F32.t73:IR:=.loop F32.t72
def F32.t76:IR:=.reg (dA [] 311)
def F32.t81:IR:=.seq F32.t0 (.seq F32.t1 (.seq F32.t2 (.seq (.seq F32.t3 (.block 0 F32.t73)) (.seq F32.t76 .ret))))
def F32.b0:IR:=F32.t81
def F32.res:List RV:=[.t (.of 2)]
def F32:Fn:={ params:=[(.of 0)],res:=F32.res,body:=F32.b0,init:=in21 }
theorem F32.ok:fnA Tryz.prog Tryz.f32 [0,1,2,3,4,5,6,7,8,9,10,11,12,13,14,19,28,34,55,67,77]=some F32:=by kernel_rfl
abbrev F33.fr:=fr32
def F33.b0:IR:=dI [] 2707903691435175114520673486313566434411898259093820746665319988592687968397179762844834351400812740995687607710541933067500706351506118280386118470672808949993066035130802751644581918044214260726240976146232566085759035566573612798037376131320269130923802723078294993848000713913291198514331175142010962423970203019266692947820097994426858198635020361806415968465607543112140279824637094504278627267148014747170907893351764457477962648322187511203501237450947530203840309849404618939113216806387832054248822443125903409133334292155664510839402292317232618407297663425232496997762781652363275136453191435584609765778524185197987304616274213755246930136098120420549509490944900455340466530409109986689923586884577099874625170551199876061922181932049804741099123558984621307149992331802411969744930539483269292597882531672619788790728070890627098916363412610893621482087
def F33.res:List RV:=[.t (.of 2),.t (.of 3)]
def F33:Fn:={ params:=[(.of 0)],res:=F33.res,body:=F33.b0,init:=in32 }
theorem F33.ok:fnA Tryz.prog Tryz.f33 [0,1,2,3,4,5,6,7,9,10,12,14,15,16,17,21,26,29,30,31,32,38,39,40,41,53,54,55,56,75,97,120]=some F33:=by kernel_rfl
abbrev F35.fr:=fr5
def F35.t0:IR:=.reg (dA [] 176684191)
def F35.zfo (r:List RO):List RO:=iQm 4 0::r
def F35.r1_3:List RO:=F35.zfo []
def F35.zfn (r:List RO):List RO:=dA r 3912498277685507238605528357098140258001599691
def F35.r1_2:List RO:=F35.zfn F35.r1_3
def F35.rQ (r:List RO):List RO:=dA r 2836316758080465
def F35.tO:List RO:=F35.rQ F35.r1_2
def F35.rP (r:List RO):List RO:=dA r 245736962071803827
def F35.sD:List RO:=F35.rP F35.tO
def F35.t1:IR:=.reg F35.sD
def F35.t3:IR:=.seq F35.t0 (.seq F35.t1 .ret)
def F35.b0:IR:=F35.t3
def F35.res:List RV:=[.t (.of 4)]
def F35:Fn:={ params:=[(.of 0),(.of 1),(.of 2)],res:=F35.res,body:=F35.b0,init:=in5 }
theorem F35.ok:fnA Tryz.prog Tryz.f35 [0,1,2,3,6]=some F35:=by kernel_rfl
abbrev F36.fr:=fr5
def F36.t0:IR:=.reg [iQo 1 (.mv (.c .za))]
def F36.t1:IR:=.reg [iQo 2 (.mv (.c .za))]
def F36.t2:IR:=.reg [iQo 3 (.mv aC0)]
def F36.t3:IR:=.reg (dA [] 1049033009)
def F36.t6:IR:=.reg (dA [] 36100597977297326291)
def F36.t8:IR:=.reg (dA [] 170814769)
def F36.t10:IR:=.seq (.seq F36.t3 (.cond aT4 .skip (.exit 0))) (.seq (.block 1 F36.t6) F36.t8)
def F36.t11:IR:=.loop F36.t10
def F36.t14:IR:=.reg (dA [] 4151)
def F36.t18:IR:=.seq F36.t0 (.seq F36.t1 (.seq (.seq F36.t2 (.block 0 F36.t11)) (.seq F36.t14 .ret)))
def F36.b0:IR:=F36.t18
def F36.res:List RV:=[.t (.of 1)]
def F36:Fn:={ params:=[(.of 0)],res:=F36.res,body:=F36.b0,init:=in5 }
theorem F36.ok:fnA Tryz.prog Tryz.f36 [0,2,3,4,7]=some F36:=by kernel_rfl
abbrev F39.fr:=fr2
def F39.t0:IR:=.reg (dA [] 2597)
def F39.t1:IR:=.reg (dA [] 18945732081)
def F39.t3:IR:=.seq F39.t0 (.seq F39.t1 .ret)
def F39.b0:IR:=F39.t3
def F39.res:List RV:=[.t (.of 1)]
def F39:Fn:={ params:=[(.of 0)],res:=F39.res,body:=F39.b0,init:=in2 }
theorem F39.ok:fnA Tryz.prog Tryz.f39 [0,2]=some F39:=by kernel_rfl
abbrev F40.fr:=fr14
def F40.t0:IR:=.reg [iQo 2 (.mv (.c (.str [])))]
def F40.t1:IR:=.reg (dA [] 54721848782473427249232994139)
def F40.t2:IR:=.reg (dA [] 298306914356146130245797138267)
def F40.t3:IR:=.reg (dA [] 11491559422909395)
def F40.t4:IR:=.reg (dA [] 3735149993724763786516228025910419465923)
def F40.t17:IR:=.seq F40.t0 (.seq F40.t1 (.seq F40.t2 (.seq (.seq F40.t3 (.cond oD (.seq F40.t4 .ret) .skip)) (.seq (.reg (dA [] 17301995984105690993324595196403883302747)) (.seq (.reg (dA [] 37378656524867063555228933949311116234587)) (.seq (.rq [] [((.s (.zm 2 aT9)),0,[]),((.s (.zm 2 aT12)),0,[]),((.s (.zm 2 aT11)),1,[]),((.s (.zm 2 aT10)),1,[]),((.s (.zm 2 aT10)),3,[]),((.s (.zm 2 aT12)),3,[]),((iCa 132 [aS5,aS4]),0,[]),((iCa 132 [aS4,aS3]),0,[]),((iCa 131 [aS1,aS0]),0,[]),((iCa 132 [aS4,aS3]),0,[]),((iCa 130 [aS1,aS0]),0,[]),((iQm 2 0),0,[])]) .ret))))))
def F40.b0:IR:=F40.t17
def F40.res:List RV:=[.t (.of 2)]
def F40:Fn:={ params:=[(.of 0),(.of 1)],res:=F40.res,body:=F40.b0,init:=in14 }
theorem F40.ok:fnA Tryz.prog Tryz.f40 [0,1,4,5,6,7,8,9,10,11,12,13,14,30]=some F40:=by kernel_rfl
abbrev F41.fr:=fr14
def F41.t0:IR:=.reg [iQo 2 (.mv (.c (.str [])))]
def F41.t1:IR:=.reg (dA [] 54721848782473427249232994139)
def F41.t2:IR:=.reg (dA [] 298306914356146130245797138267)
def F41.t3:IR:=.reg (dA [] 11491559422909395)
def F41.t4:IR:=.reg (dA [] 212318695601241172147358091)
def F41.t17:IR:=.seq F41.t0 (.seq F41.t1 (.seq F41.t2 (.seq (.seq F41.t3 (.cond oD (.seq F41.t4 .ret) .skip)) (.seq (.reg (dA [] 17301995984105690993324595196403883302747)) (.seq (.reg (dA [] 37378656524867063555228933949311116234587)) (.seq (.rq [] [((.s (.zm 2 aT9)),0,[]),((.s (.zm 2 aT11)),0,[]),((.s (.zm 2 aT10)),1,[]),((.s (.zm 2 aT12)),1,[]),((iCa 132 [aS3,aS2]),0,[]),((iCa 132 [aS2,aS1]),0,[]),((iCa 130 [aS1,aS0]),0,[]),((iQm 2 0),0,[])]) .ret))))))
def F41.b0:IR:=F41.t17
def F41.res:List RV:=[.t (.of 2)]
def F41:Fn:={ params:=[(.of 0),(.of 1)],res:=F41.res,body:=F41.b0,init:=in14 }
theorem F41.ok:fnA Tryz.prog Tryz.f41 [0,1,4,5,6,7,8,9,10,11,12,13,14,30]=some F41:=by kernel_rfl
abbrev F43.fr:=fr7
def F43.b0:IR:=dI [] 10798795191821682348491470823636891666319919978156414029470215891511731863663207
def F43.res:List RV:=[.t (.of 3),.t (.of 4)]
def F43:Fn:={ params:=[(.of 0),(.of 1)],res:=F43.res,body:=F43.b0,init:=in7 }
theorem F43.ok:fnA Tryz.prog Tryz.f43 [0,1,2,4,5,6,11]=some F43:=by kernel_rfl
abbrev F47.fr:=fr6
def F47.b0:IR:=dI [] 519183061690424022315740096114259900688132564295480079250042844542836551430396834105902927135691590184487333266223414711090718691943
def F47.res:List RV:=[.t (.of 2),.t (.of 3)]
def F47:Fn:={ params:=[(.of 0)],res:=F47.res,body:=F47.b0,init:=in6 }
theorem F47.ok:fnA Tryz.prog Tryz.f47 [0,1,2,3,4,14]=some F47:=by kernel_rfl
abbrev F48.fr:=fr7
def F48.b0:IR:=dI [] 5272827153512847302362470109736379412803067352588961638240092632678575092327
def F48.res:List RV:=[.t (.of 3),.t (.of 4)]
def F48:Fn:={ params:=[(.of 0),(.of 1)],res:=F48.res,body:=F48.b0,init:=in7 }
theorem F48.ok:fnA Tryz.prog Tryz.f48 [0,1,2,4,5,6,11]=some F48:=by kernel_rfl
abbrev F49.fr:=fr7
def F49.b4:IR:=dI [] 73682513373541464558535714210546319876147039561187636275447432354963562207869
def F49.b3:IR:=(.loop F49.b4)
def F49.g2 (X3:IR):IR:=(.block 0 X3)
def F49.b2:IR:=F49.g2 F49.b3
def F49.b9:IR:=dI [] 310807
def F49.b0:IR:=dI [F49.b2,F49.b9] 61200217686797342266839570460181331347991
def F49.res:List RV:=[.t (.of 2)]
def F49:Fn:={ params:=[(.of 0),(.of 1)],res:=F49.res,body:=F49.b0,init:=in7 }
theorem F49.ok:fnA Tryz.prog Tryz.f49 [0,1,4,5,10,14,25]=some F49:=by kernel_rfl
abbrev F51.fr:=fr13
def F51.b0:IR:=dI [] 132200350412497945273260626992956587579936993711625041975742473736191478511728326120119250646395280420442245012767860405817090796475537479629835815927161735001046643270756886561085466737901097343566817867784316586399093351
def F51.res:List RV:=[.t (.of 2),.t (.of 3)]
def F51:Fn:={ params:=[(.of 0)],res:=F51.res,body:=F51.b0,init:=in13 }
theorem F51.ok:fnA Tryz.prog Tryz.f51 [0,1,2,3,4,5,7,11,13,14,15,16,27]=some F51:=by kernel_rfl
abbrev F53.fr:=fr9
def F53.b0:IR:=dI [] 13149504658995429878324165002006579189373596354953885236534412667610397712196705270902353727821322171655233337869308979121896720919
def F53.res:List RV:=[.t (.of 2)]
def F53:Fn:={ params:=[(.of 0),(.of 1)],res:=F53.res,body:=F53.b0,init:=in9 }
theorem F53.ok:fnA Tryz.prog Tryz.f53 [0,1,4,5,10,12,13,14,24]=some F53:=by kernel_rfl
abbrev F65.fr:=fr7
def F65.b0:IR:=dI [] 306473899974374648072022843509863394089103744572754585808212251360835536129582670782705109592652069325061781998227116238296977776848931969714943087981759
def F65.res:List RV:=[.cell (.of 2) (some 2),.t (.of 3)]
def F65:Fn:={ params:=[(.of 0),(.of 1)],res:=F65.res,body:=F65.b0,init:=in7 }
theorem F65.ok:fnA Tryz.prog Tryz.f65 [0,1,4,5,6,7,20]=some F65:=by kernel_rfl
abbrev F69.fr:=fr10
def F69.b0:IR:=dI [] 9922806883341465189677357651669971423770126001788999524759134248724827851701570186931088436379411501872122760937046394931205471439641476448855920002533094290906454475495631078115953801312784988351367085662666270383479593952755214447784052774079
def F69.res:List RV:=[.cell (.of 1) (some 2),.t (.of 2)]
def F69:Fn:={ params:=[(.of 0)],res:=F69.res,body:=F69.b0,init:=in10 }
theorem F69.ok:fnA Tryz.prog Tryz.f69 [0,2,3,4,5,6,11,14,15,16]=some F69:=by kernel_rfl
abbrev F78.fr:=fr7
def F78.b0:IR:=dI [] 5272827159831584802475901311611461073823293291722756822783690790496162001511
def F78.res:List RV:=[.t (.of 3),.t (.of 4)]
def F78:Fn:={ params:=[(.of 0),(.of 1)],res:=F78.res,body:=F78.b0,init:=in7 }
theorem F78.ok:fnA Tryz.prog Tryz.f78 [0,1,2,4,5,6,11]=some F78:=by kernel_rfl
abbrev F85.fr:=fr1
def F85.b0:IR:=dI [] 31594706624544353833750342788509203869094263552536337115075672471
def F85.res:List RV:=[.t (.of 0)]
def F85:Fn:={ params:=[],res:=F85.res,body:=F85.b0,init:=in1 }
theorem F85.ok:fnA Tryz.prog Tryz.f85 [0]=some F85:=by kernel_rfl
abbrev F86.fr:=fr8
def F86.b3:IR:=dI [] 544010287395526316899033000489503926238400003650270258295
def F86.b2:IR:=(.loop F86.b3)
def F86.g1 (X2:IR):IR:=(.block 0 X2)
def F86.b1:IR:=F86.g1 F86.b2
def F86.b8:IR:=dI [] 190615
def F86.b0:IR:=dI [F86.b1,F86.b8] 53082728762161988757655
def F86.res:List RV:=[.t (.of 1)]
def F86:Fn:={ params:=[(.of 0)],res:=F86.res,body:=F86.b0,init:=in8 }
theorem F86.ok:fnA Tryz.prog Tryz.f86 [0,2,4,5,6,7,8,12]=some F86:=by kernel_rfl
abbrev F87.fr:=fr6
def F87.b0:IR:=dI [] 3518963641882867517342866571525509414896032735556199
def F87.res:List RV:=[.t (.of 5)]
def F87:Fn:={ params:=[(.of 0),(.of 1),(.of 2)],res:=F87.res,body:=F87.b0,init:=in6 }
theorem F87.ok:fnA Tryz.prog Tryz.f87 [0,1,2,3,4,6]=some F87:=by kernel_rfl
abbrev F88.fr:=fr4
def F88.b0:IR:=dI [] 439392509784045357333015
def F88.res:List RV:=[.t (.of 2)]
def F88:Fn:={ params:=[(.of 0),(.of 1)],res:=F88.res,body:=F88.b0,init:=in4 }
theorem F88.ok:fnA Tryz.prog Tryz.f88 [0,1,4,5]=some F88:=by kernel_rfl
abbrev F89.fr:=fr14
def F89.b4:IR:=dI [] 163544739278624606387957874378163439362530598874565031295860628633120423954381511367372017036907442350619530000428743173321278486265581167177347497240226726087147145247260827363589907008924051892058330920960072823
def F89.b3:IR:=(.loop F89.b4)
def F89.g2 (X3:IR):IR:=(.block 0 X3)
def F89.b2:IR:=F89.g2 F89.b3
def F89.b9:IR:=dI [] 13262971702694338297315727372398476849090456879
def F89.b0:IR:=dI [F89.b2,F89.b9] 10662580545744299798213877251737337327287087015546610567986354815704650767573955199
def F89.res:List RV:=[.t (.of 3)]
def F89:Fn:={ params:=[(.of 0),(.of 1)],res:=F89.res,body:=F89.b0,init:=in14 }
theorem F89.ok:fnA Tryz.prog Tryz.f89 [0,1,2,4,5,6,7,8,16,17,18,19,20,48]=some F89:=by kernel_rfl
abbrev F90.fr:=fr6
def F90.b3:IR:=dI [] 33506927763330465545095968637031346186568766700756080499953015421
def F90.b2:IR:=(.loop F90.b3)
def F90.g1 (X2:IR):IR:=(.block 0 X2)
def F90.b1:IR:=F90.g1 F90.b2
def F90.b8:IR:=dI [] 68119
def F90.b0:IR:=dI [F90.b1,F90.b8] 395497137146391
def F90.res:List RV:=[.t (.of 2)]
def F90:Fn:={ params:=[(.of 0),(.of 1)],res:=F90.res,body:=F90.b0,init:=in6 }
theorem F90.ok:fnA Tryz.prog Tryz.f90 [0,1,4,5,9,17]=some F90:=by kernel_rfl
abbrev F91.fr:=fr4
def F91.b0:IR:=dI [] 47192965317280718435172718457471
def F91.res:List RV:=[.t (.of 3)]
def F91:Fn:={ params:=[(.of 0),(.of 1)],res:=F91.res,body:=F91.b0,init:=in4 }
theorem F91.ok:fnA Tryz.prog Tryz.f91 [0,1,3,4]=some F91:=by kernel_rfl
abbrev F92.fr:=fr10
def F92.t0:IR:=.reg (dA [] 30414375)
def F92.t1:IR:=.reg [iQo 3 (.mv (.c .za))]
def F92.t2:IR:=.reg (dA [] 4107853979489)
def F92.t3:IR:=.reg (dA [] 91877149)
def F92.t5:IR:=.reg (dA [] 2281299913)
def F92.t6:IR:=.reg (dA [] 1949835288068087)
def F92.t11:IR:=.reg (dA [] 6294158808505389623378168235)
def F92.t15:IR:=.reg (dA [] 118223583)
def F92.t18:IR:=.seq F92.t3 (.seq (.cond aT8 .skip (.exit 0)) (.seq (.block 1 (.seq F92.t5 (.seq (.seq F92.t6 (.cond aT9 (.seq (.reg (dA [] 55580199)) .ret) .skip)) F92.t11))) F92.t15))
def F92.t19:IR:=.loop F92.t18
def F92.t22:IR:=.reg (dA [] 60821809)
def F92.t26:IR:=.seq F92.t0 (.seq F92.t1 (.seq (.seq F92.t2 (.block 0 F92.t19)) (.seq F92.t22 .ret)))
def F92.b0:IR:=F92.t26
def F92.res:List RV:=[.t (.of 1),.t (.of 2)]
def F92:Fn:={ params:=[(.of 0)],res:=F92.res,body:=F92.b0,init:=in10 }
theorem F92.ok:fnA Tryz.prog Tryz.f92 [0,2,3,4,6,7,8,9,10,14]=some F92:=by kernel_rfl
abbrev F93.fr:=fr36
def F93.b0:IR:=dI [] 2858839293388382975063512252613091223048057075829928603561202358500785261115823532667565202887477714160632695063270645605218387333643175561917383309354636287346684293080557648107117576965151282038697397775955962343146195164279591592071246099126055915207902325642487446296575513869806266251300418323120877498491311708564899252225036664930285958537175726372242716912795300091244801302400548457579756696783060152924449421790555688528643349738835362579369464860060867395400818561476195503241205256278706537547324108828045301598862441488441236376290408679852406798526272474809299342570938230159747896687565983378765049178408229516742817879768970945224355988789397161846963878904643197800871930892316644469264307755617456762311715610011681524135883733757917650211977286824491969453240463025152169196104047169973914592887047427826559306197857036440296973130996336718108857514661192330571680433068014231064774585423937212495652884167004062168180927064488529840404800537149820417934480934192781018658289428011162784383
def F93.res:List RV:=[.cell (.of 2) (some 2)]
def F93:Fn:={ params:=[(.of 0)],res:=F93.res,body:=F93.b0,init:=in36 }
theorem F93.ok:fnA Tryz.prog Tryz.f93 [0,1,2,3,4,5,6,7,8,9,10,12,13,14,15,16,17,24,43,44,45,46,72,76,84,85,86,87,106,107,108,112,119,120,121,122]=some F93:=by kernel_rfl
abbrev F94.fr:=fr4
def F94.b0:IR:=dI [] 2116929076016163540795724606704975828394225775119197741796021196767582610959985765726007935
def F94.res:List RV:=[.t (.of 3)]
def F94:Fn:={ params:=[(.of 0),(.of 1)],res:=F94.res,body:=F94.b0,init:=in4 }
theorem F94.ok:fnA Tryz.prog Tryz.f94 [0,1,2,4]=some F94:=by kernel_rfl
abbrev F95.fr:=fr5
def F95.b0:IR:=dI [] 29752961003845715826343109294692485778313915378817333810147967
def F95.res:List RV:=[.t (.of 3)]
def F95:Fn:={ params:=[(.of 0),(.of 1)],res:=F95.res,body:=F95.b0,init:=in5 }
theorem F95.ok:fnA Tryz.prog Tryz.f95 [0,1,2,4,5]=some F95:=by kernel_rfl
abbrev F96.fr:=fr2
def F96.t0:IR:=.reg (dA [] 79149)
def F96.t1:IR:=.reg (dA [] 130898633311530219475)
def F96.t3:IR:=.seq F96.t0 (.seq F96.t1 .ret)
def F96.b0:IR:=F96.t3
def F96.res:List RV:=[.cell (.of 1) (some 4)]
def F96:Fn:={ params:=[(.of 0)],res:=F96.res,body:=F96.b0,init:=in2 }
theorem F96.ok:fnA Tryz.prog Tryz.f96 [0,2]=some F96:=by kernel_rfl
abbrev F97.fr:=fr4
def F97.t0:IR:=.reg (dA [] 7726167199)
def F97.t1:IR:=.reg (dA [] 720209080815)
def F97.t2:IR:=.reg (dA [] 11806575507891)
def F97.t6:IR:=dI [] 10155499575546141764589023452032847419719605094
def F97.t9:IR:=.seq F97.t0 (.seq (.seq F97.t1 (.cond aT3 (.seq F97.t2 .ret) .skip)) (.seq F97.t6 .ret))
def F97.b0:IR:=F97.t9
def F97.res:List RV:=[.t (.of 2)]
def F97:Fn:={ params:=[(.of 0)],res:=F97.res,body:=F97.b0,init:=in4 }
theorem F97.ok:fnA Tryz.prog Tryz.f97 [0,1,2,4]=some F97:=by kernel_rfl
abbrev F98.fr:=fr7
def F98.t0:IR:=.reg (dA [] 195292319)
def F98.t1:IR:=.reg (dA [] 36578590132659)
def F98.t2:IR:=.reg [iQo 5 (.mv aC0)]
def F98.t3:IR:=.reg (dA [] 18583160842637135186720651)
def F98.t6:IR:=.reg (dA [] 9921876151961902371707820878224686403)
def F98.t8:IR:=.reg (dA [] 744283889)
def F98.t10:IR:=.seq (.seq F98.t3 (.cond aT6 .skip (.exit 0))) (.seq (.block 1 F98.t6) F98.t8)
def F98.t11:IR:=.loop F98.t10
def F98.t14:IR:=.reg (dA [] 42999)
def F98.t18:IR:=.seq F98.t0 (.seq F98.t1 (.seq (.seq F98.t2 (.block 0 F98.t11)) (.seq F98.t14 .ret)))
def F98.b0:IR:=F98.t18
def F98.res:List RV:=[.t (.of 3)]
def F98:Fn:={ params:=[(.of 0),(.of 1)],res:=F98.res,body:=F98.b0,init:=in7 }
theorem F98.ok:fnA Tryz.prog Tryz.f98 [0,1,2,4,5,6,17]=some F98:=by kernel_rfl
abbrev F99.fr:=fr3
def F99.t0:IR:=.reg [iQo 2 (.mv (.c (.str [])))]
def F99.t1:IR:=.reg (dA [] 8004153648717483963)
def F99.t3:IR:=.seq F99.t0 (.seq F99.t1 .ret)
def F99.b0:IR:=F99.t3
def F99.res:List RV:=[.t (.of 2)]
def F99:Fn:={ params:=[(.of 0),(.of 1)],res:=F99.res,body:=F99.b0,init:=in3 }
theorem F99.ok:fnA Tryz.prog Tryz.f99 [0,1,4]=some F99:=by kernel_rfl
abbrev jg.fr:=fr9
def jg.t0:IR:=.reg [iQo 2 (.mv (.c .za))]
def jg.t1:IR:=.reg (dA [] 21824265713)
def jg.t2:IR:=.reg (dA [] 4107853975393)
def jg.t3:IR:=.reg (dA [] 91877149)
def jg.t5:IR:=.reg (dA [] 2281299913)
def jg.t6:IR:=.reg (dA [] 460600683952349263153595)
def jg.t9:IR:=.reg (dA [] 118223583)
def jg.t12:IR:=.seq jg.t3 (.seq (.cond aT8 .skip (.exit 0)) (.seq (.block 1 (.seq jg.t5 jg.t6)) jg.t9))
def jg.t13:IR:=.loop jg.t12
def jg.t16:IR:=.reg (dA [] 311)
def jg.t20:IR:=.seq jg.t0 (.seq jg.t1 (.seq (.seq jg.t2 (.block 0 jg.t13)) (.seq jg.t16 .ret)))
def jg.b0:IR:=jg.t20
def jg.res:List RV:=[.t (.of 2)]
def jg:Fn:={ params:=[(.of 0),(.of 1)],res:=jg.res,body:=jg.b0,init:=in9 }
theorem jg.ok:fnA Tryz.prog Tryz.f104 [0,1,4,5,7,10,11,12,13]=some jg:=by kernel_rfl
abbrev jh.fr:=fr7
def jh.t0:IR:=.reg [iQo 1 (.mv (.c .za))]
def jh.t1:IR:=.reg (dA [] 607276111345)
def jh.t2:IR:=.reg (dA [] 3984905265)
def jh.t3:IR:=.reg (dA [] 133953821)
def jh.t5:IR:=.reg (dA [] 42743)
def jh.t6:IR:=.reg (dA [] 115150170997886345855419)
def jh.t9:IR:=.reg (dA [] 93056735)
def jh.t12:IR:=.seq jh.t3 (.seq (.cond aT6 .skip (.exit 0)) (.seq (.block 1 (.seq jh.t5 jh.t6)) jh.t9))
def jh.t13:IR:=.loop jh.t12
def jh.t16:IR:=.reg (dA [] 4151)
def jh.t20:IR:=.seq jh.t0 (.seq jh.t1 (.seq (.seq jh.t2 (.block 0 jh.t13)) (.seq jh.t16 .ret)))
def jh.b0:IR:=jh.t20
def jh.res:List RV:=[.t (.of 1)]
def jh:Fn:={ params:=[(.of 0)],res:=jh.res,body:=jh.b0,init:=in7 }
theorem jh.ok:fnA Tryz.prog Tryz.f105 [0,2,3,4,8,9,10]=some jh:=by kernel_rfl
abbrev jo.fr:=fr11
def jo.t0:IR:=.reg (dA [] 261277)
def jo.t1:IR:=.reg (dA [] 8101043192609)
def jo.t2:IR:=.reg (dA [] 483128861)
def jo.t4:IR:=.reg (dA [] 2131425138930749000243792811)
def jo.t5:IR:=.reg (dA [] 264358693944914409)
def jo.t6:IR:=dI [] 160494704629490778208944412270523526162105684539120437576188024934
def jo.t11:IR:=.reg (dA [] 253204191)
def jo.t14:IR:=.seq jo.t2 (.seq (.cond aT9 .skip (.exit 0)) (.seq (.block 1 (.seq jo.t4 (.seq jo.t5 (.cond aT10 jo.t6 .skip)))) jo.t11))
def jo.t15:IR:=.loop jo.t14
def jo.t18:IR:=.seq jo.t0 (.seq jo.t1 (.block 0 jo.t15))
def jo.b0:IR:=jo.t18
def jo.res:List RV:=[]
def jo:Fn:={ params:=[(.of 0),(.of 1),(.of 2)],res:=jo.res,body:=jo.b0,init:=in11 }
theorem jo.ok:fnA Tryz.prog Tryz.f106 [0,1,2,4,6,7,8,9,10,11,17]=some jo:=by kernel_rfl
abbrev fJ.fr:=fr3
def fJ.t0:IR:=.reg (dA [] 5052822687)
def fJ.t1:IR:=dI [] 2983490747448251045717216091165602770022
def fJ.t3:IR:=.seq fJ.t0 (.seq fJ.t1 .ret)
def fJ.b0:IR:=fJ.t3
def fJ.res:List RV:=[.cell (.of 2) (some 4)]
def fJ:Fn:={ params:=[(.of 0)],res:=fJ.res,body:=fJ.b0,init:=in3 }
theorem fJ.ok:fnA Tryz.prog Tryz.f107 [0,1,2]=some fJ:=by kernel_rfl
end
end Go.Ev
